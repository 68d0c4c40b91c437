import PyProof.Rows.All
import Wide.All
import OpenK.AllK
import Wide.FinOn
import HandS.ForMost
import HandS.Exc
import HandS.WordsExc
import HandS.TupAny
import HandS.Conv
import HandS.Deep
import HandS.IsInst
import HandS.ExcOwn
import HandS.Strs
import HandS.TupSets
import PyProof.P3In
import KE.GoesMore
import KE.KeyNested
import HandS.More
import HandS.Style
import HandS.SortInts
import KE.GoesEnum
import HandS.SetFor
import KE.KDictDisplayH
import KE.KDictCopyH
import HandS.TupLen
import HandS.ExcInit
import HandS.ExcField
import HandS.TryMany
import HandS.Small
import KE.KExcIs
import PyProof.ExcBaseAll.ValueError
import HandS.ExcIs
import HandS.SetBool
import HandS.TupMul
import PySem.Challenge.RW_moveseen_k03_ways_and_orbits
set_option Elab.async false
set_option linter.all false
set_option maxRecDepth 100000
/-! Readings beside the layer's own: tuples whose object is known to have no dict of its own. -/
namespace L2X
open PySem PySem.Spec PyProof.Rows L2

def TupOb (o : Obj) : Prop := o.cls = .type "tuple" ∧ o.dict = none
/-- a new tuple of the items -/
abbrev NewT (xs : List V) (H : Hp) (Q : VK) : Prop := ∀ p o, H p = none → TupOb o → Q (.ref p) (upd H p (.frz o (.tup xs)))
section
variable {X : Cx} {pins : List (Addr × Obj)} {σ : L2.St} {H : Hp} {s : Shared}
theorem laidT {xs : List V} {its : List Value} {h' : Heap} {t : Nat} (I : Inv X pins σ H { s with heap := h', toks := t }) (r : Vals xs its) (hz : xs.length ≤ sizeLine) {Q : VK} (q : NewT xs H Q) :
    EP X pins σ Q (.ref h'.objs.size) { s with heap := h'.push { cls := .type "tuple", data := .seq its.toArray }, toks := t } := by
  have hf : H h'.objs.size = none := I.hok.fresh (Nat.le_refl _)
  have I2 : Inv X pins σ (upd H h'.objs.size (.frz { cls := .type "tuple", data := .seq its.toArray } (.tup xs))) { s with heap := h'.push { cls := .type "tuple", data := .seq its.toArray }, toks := t } :=
    I.laid (t' := t) (fun b o e => Heap.get?_push_of_some _ e) (Nat.le_refl _)
      (show ObjOk X.prog X.w _ _ _ (.frz _ (.tup xs)) from ⟨Heap.get?_push_size _ rfl, hz, its, r, ⟨_, Heap.get?_push_size _ rfl, rfl, _, rfl⟩⟩)
  exact ⟨.ref h'.objs.size, _, I2, rfl, q _ _ hf ⟨rfl, rfl⟩⟩
variable {e : Expr} {es : List Expr} {t : TA} {te : TE} {pos p : Pos}
def tTupX (t : TA) : TE := fun σ H Q => t σ H fun xs H1 => xs.length ≤ sizeLine ∧ NewT xs H1 Q
theorem pe_tupX {x1} (h : PA X es t) : PE X (.Tuple es x1 pos) (tTupX t) := by
  refine ⟨fun pins s σ H Q I hq => ?_⟩
  refine wpAny_Tuple_spliced (thn (h.run pos pins s σ H _ I hq) fun us s1 ⟨xs, H1, I1, r, z, q⟩ => ⟨by rw [← r.length]; exact z, ?_⟩)
  exact laidT (s := s1) (t := s1.toks) I1 r z q
/-- tuple(x) of a list or a tuple -/
def rTupX (K : PySem.W.Frag) : List V → Hp → VK → Prop := fun xs H Q => ∃ p ys, xs = [.ref p] ∧ ((SqL K H p ys ∧ NewT ys H Q) ∨ (SqT K H p ys ∧ Q (.ref p) H))
theorem cr_tupX : CallR X (.type "tuple") (rTupX X.K) := by
  intro pins s σ H xs us Q I r h
  obtain ⟨p, ys, rfl, h⟩ := h
  obtain ⟨u, rfl, rx⟩ := vals1 r
  cases rx
  rcases h with ⟨hq, q⟩ | ⟨hq, q⟩
  · obtain ⟨its, r', pl, hz⟩ := I.list hq
    have hlen := r'.length
    refine call_tuple_list pl.isList (fun h' kp => ?_) (by simp only [List.size_toArray] <;> omega)
    exact laidT (s := s) (t := s.toks) (I.kept (t' := s.toks) kp) r' hz q
  · obtain ⟨its, r', pl, hz⟩ := I.tuple hq
    exact call_tuple_same pl ⟨.ref p, H, I, rfl, q⟩
/-- tuple(range(..)) -/
def tTupRgX (te : L2.St → Hp → (Int → Int → Hp → Prop) → Prop) : TE := fun σ H Q => te σ H fun a b H1 => RgOk a b ∧ NewT (rgV a b) H1 Q
theorem pe_tupRgX {te : L2.St → Hp → (Int → Int → Hp → Prop) → Prop} (hc : X.calm = true) (hg : Gl X "tuple") (hm : X.mg "tuple" = none) (he : PRg X e te) (na : starEach [e] X.env = (false, eval e X.env) :: starEach [] X.env := by rfl) :
    PE X (.Call (.Name "tuple" p) [e] [] pos) (tTupRgX te) := by
  refine ⟨fun pins s σ H Q I h => ?_⟩
  refine Call_ (ld_blt I hg hm boot_tuple (PyProof.Rows.callWith_type1 (args_cons (thn (he pins s σ H _ I h) fun x s1 ⟨r, a, b, t, u, v, H1, ex, hr, I1, ok, q⟩ => args_nil ?_) na) na))
  subst ex
  obtain ⟨b1, b2, b3, b4, b5⟩ := ok
  refine call_tuple_range (n := (b - a).toNat) (I1.ok.hd hc) hr (small_one b1 b2 b3 b4) (rangeSize_nat a b) b5 fun h' tk acc hk hi => ?_
  have I2 : Inv X pins σ H1 { s1 with heap := h', toks := tk } := I1.kept hk
  have := laidT (s := s1) (t := tk) I2 (vals_rg hi) (by rw [rgV_length, sizeLine_eq]; omega) q
  rw [Array.toArray_toList] at this
  exact this
/-- t + u -/
def rCatX (K : PySem.W.Frag) : R2 := fun x y H Q => ∃ a b xs ys, x = .ref a ∧ y = .ref b ∧ SqT K H a xs ∧ SqT K H b ys ∧ xs.length + ys.length ≤ sizeLine ∧
  (xs = [] → Q (.ref b) H) ∧ (xs ≠ [] → ys = [] → Q (.ref a) H) ∧ (xs ≠ [] → ys ≠ [] → NewT (xs ++ ys) H Q)
theorem op_catX : OpR X (binaryOp .Add) (rCatX X.K) := by
  intro pins s σ H x y v u Q I rx ry h
  obtain ⟨a, b, xs, ys, rfl, rfl, ha, hb, hz, q0, q1, q2⟩ := h
  cases rx
  cases ry
  obtain ⟨its, r1, p1, _⟩ := I.tuple ha
  obtain ⟨its2, r2, p2, _⟩ := I.tuple hb
  by_cases hx : xs = []
  · subst hx
    cases r1
    exact cat_tup0 p1 p2 ⟨.ref b, H, I, rfl, q0 rfl⟩
  · have e1 := r1.length
    have e2 := r2.length
    refine HT.cat_tup p1 p2 (fun z => hx (by subst z; exact List.length_eq_zero_iff.mp e1)) (fun z => ?_) (fun z => ?_) (by omega)
    · subst z
      exact ⟨.ref a, H, I, rfl, q1 hx (List.length_eq_zero_iff.mp e2)⟩
    · exact laidT (s := s) (t := s.toks) I (r1.append r2) (by rw [List.length_append]; exact hz) (q2 hx fun w => z (by subst w; exact List.length_eq_zero_iff.mp e2.symm))
/-- t[lo:hi] -/
def rSlX (K : PySem.W.Frag) : V → Option Int → Option Int → Hp → VK → Prop := fun x lo hi H Q => ∃ a xs, x = .ref a ∧ SqT K H a xs ∧
  (HT.sIx xs.length 0 lo = 0 ∧ HT.sIx xs.length xs.length hi = xs.length → Q (.ref a) H) ∧ (¬ (HT.sIx xs.length 0 lo = 0 ∧ HT.sIx xs.length xs.length hi = xs.length) → NewT (cutV xs lo hi) H Q)
theorem sl_tupX : SlR X (rSlX X.K) := by
  intro pins s σ H x v vl vu lo hi sl Q I rx hs pl pu h
  obtain ⟨a, xs, rfl, hx, q1, q2⟩ := h
  cases rx
  obtain ⟨its, r, ht, hz⟩ := I.tuple hx
  have hlen : its.toArray.size = xs.length := by rw [List.size_toArray]; exact r.length.symm
  refine ⟨"tuple", _, PyProof.Rows.slot_tuple_getitem.lookup, ht.typeIs, ?_⟩
  by_cases hw : HT.sIx xs.length 0 lo = 0 ∧ HT.sIx xs.length xs.length hi = xs.length
  · exact getItem_tuple_whole ht hs pl pu (by rw [hlen]; exact hw) ⟨.ref a, H, I, rfl, q1 hw⟩
  · refine HT.getItem_tuple_cut ht hs pl pu (by rw [hlen]; exact hw) ?_ (by rw [hlen]; exact hz)
    rw [hlen]
    exact laidT (s := s) (t := s.toks) I ((r.drop _).take _) (Nat.le_trans (cutV_length xs lo hi) hz) (q2 hw)
end
end L2X

set_option Elab.async false
set_option linter.all false
set_option maxRecDepth 100000
/-! Dicts whose keys are whole numbers, texts, None and tuples of them, mixed. -/
namespace L2X
open PySem PySem.Spec PyProof.Rows L2
open Sem (wp)
/-- key, the key's value, the value -/
abbrev KEnt := NestedKey × Value × Value
def entV (w : World) (x : KEnt) : DictEntry := ⟨x.1.hash w, x.2.1, x.2.2⟩
def KIs (h : Heap) (k : NestedKey) (v : Value) : Prop := NestedIs h k v ∧ k.depth ≤ 8
def atV (xs : List KEnt) (k : NestedKey) : Option (Value × Value) := (xs.find? fun x => decide (x.1 = k)).map (·.2)
def putV (k : NestedKey) (v : Value) (x : KEnt) : KEnt := if x.1 = k then (x.1, x.2.1, v) else x
def stoV (xs : List KEnt) (k : NestedKey) (u v : Value) : List KEnt := if (atV xs k).isSome then xs.map (putV k v) else xs ++ [(k, u, v)]
theorem atV_cons (x : KEnt) (xs : List KEnt) (k : NestedKey) : atV (x :: xs) k = if x.1 = k then some x.2 else atV xs k := by
  unfold atV
  by_cases e : x.1 = k
  · simp [e]
  · simp [List.find?_cons, e]
theorem atV_get : ∀ {xs : List KEnt} {j : Nat} {k : NestedKey} {p : Value × Value}, (xs.map (·.1)).Nodup → xs[j]? = some (k, p) → atV xs k = some p
  | [], _, _, _, _, e => by simp at e
  | x :: xs, 0, k, p, _, e => by
    simp only [List.getElem?_cons_zero, Option.some.injEq] at e
    subst e
    rw [atV_cons, if_pos rfl]
  | x :: xs, j + 1, k, p, hn, e => by
    rw [List.map_cons, List.nodup_cons] at hn
    simp only [List.getElem?_cons_succ] at e
    rw [atV_cons, if_neg (fun q => hn.1 (List.mem_map.mpr ⟨(k, p), List.mem_of_getElem? e, q.symm⟩)), atV_get hn.2 e]
theorem atV_none : ∀ {xs : List KEnt} {k : NestedKey}, k ∉ xs.map (·.1) → atV xs k = none
  | [], _, _ => rfl
  | x :: xs, k, h => by
    rw [List.map_cons, List.mem_cons] at h
    rw [atV_cons, if_neg (fun q => h (.inl q.symm)), atV_none (fun q => h (.inr q))]
theorem uniqV {xs : List KEnt} (hn : (xs.map (·.1)).Nodup) {i j : Nat} {k : NestedKey} {p q : Value × Value} (hi : xs[i]? = some (k, p)) (hj : xs[j]? = some (k, q)) : i = j := by
  have a : (xs.map (·.1))[i]? = some k := by rw [List.getElem?_map, hi]; rfl
  have b : (xs.map (·.1))[j]? = some k := by rw [List.getElem?_map, hj]; rfl
  exact (List.getElem?_inj (List.getElem?_eq_some_iff.mp a).1 hn).mp (a.trans b.symm)
theorem putV_keys (k : NestedKey) (v : Value) : ∀ xs : List KEnt, (xs.map (putV k v)).map (·.1) = xs.map (·.1)
  | [] => rfl
  | x :: xs => by
    rw [List.map_cons, List.map_cons, List.map_cons, putV_keys k v xs]
    congr 1
    unfold putV; split <;> rfl
theorem putV_not (k : NestedKey) (v : Value) : ∀ xs : List KEnt, k ∉ xs.map (·.1) → xs.map (putV k v) = xs
  | [], _ => rfl
  | x :: xs, h => by
    rw [List.map_cons, List.mem_cons] at h
    rw [List.map_cons, putV_not k v xs (fun q => h (.inr q))]
    congr 1
    unfold putV; rw [if_neg (fun q => h (.inl q.symm))]
theorem modV (w : World) (k : NestedKey) (v : Value) : ∀ {xs : List KEnt} {j : Nat} {p : Value × Value}, (xs.map (·.1)).Nodup → xs[j]? = some (k, p) →
    (xs.map (entV w)).modify j (fun e : DictEntry => { e with val := v }) = (xs.map (putV k v)).map (entV w)
  | [], _, _, _, e => by simp at e
  | x :: xs, 0, p, hn, e => by
    simp only [List.getElem?_cons_zero, Option.some.injEq] at e
    subst e
    rw [List.map_cons, List.nodup_cons] at hn
    rw [List.map_cons, List.map_cons, putV_not k v xs hn.1]
    unfold putV; rw [if_pos rfl]; rfl
  | x :: xs, j + 1, p, hn, e => by
    rw [List.map_cons, List.nodup_cons] at hn
    simp only [List.getElem?_cons_succ] at e
    have q : ¬ x.1 = k := fun q => hn.1 (List.mem_map.mpr ⟨(k, p), List.mem_of_getElem? e, q.symm⟩)
    have ih := modV w k v hn.2 e
    rw [List.map_cons, List.map_cons, List.map_cons]
    show entV w x :: (xs.map (entV w)).modify j _ = _
    rw [ih]
    unfold putV; rw [if_neg q]
/-- the dict at d -/
def DictV (w : World) (h : Heap) (d : Addr) (xs : List KEnt) : Prop :=
  ∃ (o : Obj) (es : Array DictEntry) (ep : Nat), h.get? d = some o ∧ o.ExactDict ∧ o.data = .dict es ep ∧ es.toList = xs.map (entV w)
theorem DictV.typeIs {w : World} {s : Shared} {d : Addr} {xs : List KEnt} (hm : DictV w s.heap d xs) : s.TypeIs (.ref d) "dict" :=
  let ⟨o, _, _, ho, hc, _⟩ := hm; ⟨o, ho, hc.1⟩
theorem DictV.new (w : World) (h : Heap) : DictV w (h.push { cls := .type "dict", data := .dict #[] }) h.objs.size [] :=
  ⟨_, #[], 0, Heap.get?_push_size _ rfl, ⟨rfl, rfl, rfl⟩, rfl, rfl⟩
theorem KIs.keeps {h h' : Heap} {k : NestedKey} {v : Value} {d : Addr} {o : Obj} {es : Array DictEntry} {ep : Nat} (x : KIs h k v) (ho : h.get? d = some o) (hd : o.data = .dict es ep) (hs : Heap.SameBut d h h') : KIs h' k v :=
  ⟨NestedIs.at (fun b ob vs n hb hc => (hs.2 b fun e => by
    subst e
    rw [ho] at hb
    cases hb
    rw [hd] at hc
    cases hc).trans hb) k _ x.1, x.2⟩
section
variable {prog : Program} {w : World} {A : Around} {E : Value → Shared → Prop} {s : Shared}
theorem hashV {k : NestedKey} {v : Value} {Q : Int → Shared → Prop} (hu : A.units + 8 < cLine) (hk : KIs s.heap k v) (h : Q (k.hash w) { s with toks := s.toks + k.draws }) : wpAny (model prog w) A (pyHash v) Q E s :=
  pyHash_key k v A s Q hk.1 (by have := hk.2; omega) h
theorem eqV {x y : NestedKey} {u v : Value} {Q : Bool → Shared → Prop} (hu : A.units + 8 < cLine) (hx : KIs s.heap x u) (hy : KIs s.heap y v) (h : Q (decide (x = y)) s) : wpAny (model prog w) A (eqBool u v) Q E s :=
  eqAt_key x y A s u v hx.1 hy.1 (by have := hx.2; omega) prog w E Q (by rw [← NestedKey.decide_eq]; exact h)
theorem tellV {u : Value} {k : NestedKey} {stored : List Value} {Q : Bool → Shared → Prop} (hkey : KIs s.heap k u) (hst : ∀ v ∈ stored, ∃ k', KIs s.heap k' v) (h : Q false s) : wpAny (model prog w) A (tableMayTell u stored) Q E s := by
  unfold tableMayTell
  split
  · exact wpAny_pure h
  · refine wpAny_bind (quiet_key k u 8 s hkey.1 hkey.2 _ _ _ ?_)
    simp only [Bool.not_true, Bool.false_eq_true, if_false]
    refine wpAny_bind ?_
    refine wpAny_forIn_list _ (fun rest r s' => s' = s ∧ r = (none, ()) ∧ ∀ v ∈ rest, ∃ k', KIs s.heap k' v) _ ?_ ?_ _ _ ⟨rfl, rfl, hst⟩
    · rintro x rest r s' ⟨rfl, rfl, hr⟩
      obtain ⟨k', hb⟩ := hr x List.mem_cons_self
      refine wpAny_bind (quiet_key k' x 8 _ hb.1 hb.2 _ _ _ ?_)
      simp only [Bool.not_true, Bool.false_eq_true, if_false]
      exact wpAny_pure ⟨rfl, rfl, fun v hv => hr v (List.mem_cons_of_mem _ hv)⟩
    · rintro r s' ⟨rfl, rfl, _⟩
      exact wpAny_pure h

theorem textOf {h : Heap} {x : Str} {v : Value} (k : NestedIs h (.text x) v) : ∃ t, v = .str x t := by cases k; exact ⟨_, rfl⟩
theorem strOf {h : Heap} {k : NestedKey} {x : Str} {t : Tok} (q : NestedIs h k (.str x t)) : k = .text x := by cases q; rfl
theorem findV {d : Addr} {u : Value} {o : Obj} {es : Array DictEntry} {ep : Nat} {xs : List KEnt} {k : NestedKey} {Q : Option Nat → Shared → Prop} (hu : A.units + 8 < cLine) (hkey : KIs s.heap k u)
    (ho : s.heap.get? d = some o) (hd : o.data = .dict es ep) (he : es.toList = xs.map (entV w)) (his : ∀ x ∈ xs, KIs s.heap x.1 x.2.1) (hn : (xs.map (·.1)).Nodup)
    (hnone : k ∉ xs.map (·.1) → Q none s) (hsome : ∀ (j : Nat) (p : Value × Value), xs[j]? = some (k, p) → Q (some j) s) :
    wpAny (model prog w) A (dictFind d u (k.hash w)) Q E s := by
  have entAt : ∀ j : Nat, es[j]? = (xs[j]?).map (entV w) := fun j => by rw [← Array.getElem?_toList, he, List.getElem?_map]
  have hsz : es.size = xs.length := by rw [← Array.length_toList, he, List.length_map]
  have haskey : ∀ (j : Nat) (p : Value × Value), xs[j]? = some (k, p) → ((es[j]?.map (·.hash)) == some (k.hash w)) = true := fun j p hj => by
    rw [entAt j, hj]
    simp [entV]
  have hmem : ∀ e ∈ es, ∃ x ∈ xs, e = entV w x := fun e hin => by
    have : e ∈ xs.map (entV w) := he ▸ Array.mem_toList_iff.mpr hin
    obtain ⟨x, hx, rfl⟩ := List.mem_map.mp this
    exact ⟨x, hx, rfl⟩
  have hno' : (∀ (j : Nat) (p : Value × Value), xs[j]? ≠ some (k, p)) → Q none s := fun q => hnone fun hm => by
    obtain ⟨x, hx, e⟩ := List.mem_map.mp hm
    obtain ⟨j, hj⟩ := List.mem_iff_getElem?.mp hx
    exact q j x.2 (by rw [hj, ← e])
  -- the slow road: one pass, a hit is kept
  have slow : ∀ (f : Bool), wpAny (model prog w) A (do
      let mut hit : Option Nat := none
      for i in placesWithHash es.size (fun i => es[i]?.map (·.hash)) (k.hash w) do
        if let some e := es[i]? then
          if e.hash == k.hash w then
            let before ← dictEpoch d (keyPart u)
            let same ← eqBool e.key u
            if (← dictEpoch d (keyPart u)) != before then unsupported "dict.changed-during-lookup"
            if same then
              if hit.isSome then unsupported "dict.find:order-among-keys-of-one-hash"
              rule "dict.find.hit"
              if ((placesWithHash es.size (fun i => es[i]?.map (·.hash)) (k.hash w)).filterMap fun i => es[i]?.map (·.key)).length < 2 then return some i
              hit := some i
            else
              rule "dict.find.same-hash-other-key"
              if false && !(0 ≤ k.hash w && k.hash w < 32) then unsupported "dict.find:asked-again-or-not-hangs-on-the-table"
      return hit) Q E s := by
    intro _
    refine wpAny_bind ?_
    refine wpAny_forIn_list _
      (fun rest b s' => s' = s ∧ ∃ i hit, b = (none, hit) ∧ rest = (List.range' i (es.size - i)).filter (fun i => (es[i]?.map (·.hash)) == some (k.hash w)) ∧ i ≤ es.size ∧
        ((hit = none ∧ ∀ j p, j < i → xs[j]? ≠ some (k, p)) ∨ ∃ j p, hit = some j ∧ j < i ∧ xs[j]? = some (k, p))) _ ?_ ?_ _ _
      ⟨rfl, 0, none, rfl, by rw [placesWithHash, List.range_eq_range', Nat.sub_zero], Nat.zero_le _, .inl ⟨rfl, fun _ _ h => absurd h (Nat.not_lt_zero _)⟩⟩
    · rintro x rest b s' ⟨rfl, i, hit, rfl, hr, hi, hH⟩
      obtain ⟨hix, hxn, hpx, hskip, hrest⟩ := filter_range'_cons _ _ _ _ _ hr.symm
      have hlt : x < es.size := by omega
      have hrest' : rest = (List.range' (x + 1) (es.size - (x + 1))).filter (fun i => (es[i]?.map (·.hash)) == some (k.hash w)) := by rw [hrest]; congr 2; omega
      obtain ⟨⟨k', b, v'⟩, hkv⟩ : ∃ y, xs[x]? = some y := ⟨xs[x]'(by rw [← hsz]; exact hlt), List.getElem?_eq_getElem _⟩
      have hib : KIs s'.heap k' b := his _ (List.mem_of_getElem? hkv)
      have hex : es[x]? = some ⟨k'.hash w, b, v'⟩ := by rw [entAt x, hkv]; rfl
      have hHx : (hit = none ∧ ∀ j p, j < x → xs[j]? ≠ some (k, p)) ∨ ∃ j p, hit = some j ∧ j < x ∧ xs[j]? = some (k, p) := by
        rcases hH with ⟨h0, hno⟩ | ⟨j, p, h1, hji, hj⟩
        · refine .inl ⟨h0, fun j p hjx hj => ?_⟩
          rcases Nat.lt_or_ge j i with h | h
          · exact hno j p h hj
          · exact Bool.false_ne_true ((hskip j h hjx).symm.trans (haskey j p hj))
        · exact .inr ⟨j, p, h1, by omega, hj⟩
      have hstay : ¬ k' = k → ((hit = none ∧ ∀ j p, j < x + 1 → xs[j]? ≠ some (k, p)) ∨ ∃ j p, hit = some j ∧ j < x + 1 ∧ xs[j]? = some (k, p)) := fun hne => by
        rcases hHx with ⟨h0, hno⟩ | ⟨j, p, h1, hjx, hj⟩
        · refine .inl ⟨h0, fun j p hjx hj => ?_⟩
          rcases Nat.lt_or_ge j x with h | h
          · exact hno j p h hj
          · have : j = x := by omega
            subst this
            rw [hkv] at hj
            injection hj with hj
            injection hj with hj
            exact hne hj
        · exact .inr ⟨j, p, h1, by omega, hj⟩
      rw [hex]
      dsimp only
      by_cases hh : (k'.hash w == k.hash w) = true
      · rw [if_pos hh]
        refine wpAny_bind (wpAny_dictEpoch ho hd (wpAny_bind (eqV (x := k') (y := k) hu hib hkey (wpAny_bind (wpAny_dictEpoch ho hd ?_)))))
        show wpAny _ _ (if (ep != ep) = true then _ else _) _ E _
        rw [if_neg (by simp)]
        by_cases hkk : k' = k
        · rw [decide_eq_true hkk]
          subst hkk
          rcases hHx with ⟨rfl, _⟩ | ⟨j, p, _, hjx, hj⟩
          · first | rw [if_pos rfl] | skip
            simp only [Option.isSome_none, Bool.false_eq_true, if_false]
            first | refine wpAny_bind (wpAny_pure ?_) | skip
            refine wpAny_bind (wpAny_rule ?_)
            split
            · exact wpAny_pure (wpAny_pure (hsome x _ hkv))
            · exact wpAny_pure ⟨rfl, x + 1, some x, rfl, hrest', hlt, .inr ⟨x, _, rfl, Nat.lt_succ_self x, hkv⟩⟩
          · exact absurd (uniqV hn hj hkv) (by omega)
        · rw [decide_eq_false hkk]
          simp only [Bool.false_eq_true, if_false]
          refine wpAny_bind (wpAny_rule ?_)
          first | rw [if_neg (by simp)] | skip
          first
            | exact wpAny_pure ⟨rfl, x + 1, hit, rfl, hrest', hlt, hstay hkk⟩
            | exact wpAny_bind (wpAny_pure (wpAny_pure ⟨rfl, x + 1, hit, rfl, hrest', hlt, hstay hkk⟩))
      · rw [if_neg hh]
        refine wpAny_pure ⟨rfl, x + 1, hit, rfl, hrest', hlt, hstay fun hkk => ?_⟩
        rw [hkk] at hh; simp at hh
    · rintro b s' ⟨rfl, i, hit, rfl, hr, hi, hH⟩
      have hall : ∀ j, i ≤ j → j < es.size → ((es[j]?.map (·.hash)) == some (k.hash w)) = false := fun j h1 h2 => by
        have := List.filter_eq_nil_iff.mp hr.symm j (List.mem_range'_1.mpr ⟨h1, by omega⟩)
        simpa using this
      rcases hH with ⟨rfl, hno⟩ | ⟨j, p, rfl, _, hj⟩
      · refine wpAny_pure (hno' fun j p hj => ?_)
        rcases Nat.lt_or_ge j i with h | h
        · exact hno j p h hj
        · have hjl : j < es.size := by
            rw [hsz]
            rcases Nat.lt_or_ge j xs.length with h' | h'
            · exact h'
            · rw [List.getElem?_eq_none h'] at hj; exact nomatch hj
          exact Bool.false_ne_true ((hall j h hjl).symm.trans (haskey j p hj))
      · exact wpAny_pure (hsome j p hj)
  have plain : wpAny (model prog w) A (dictWalkPlain d u (k.hash w) es (placesWithHash es.size (fun i => es[i]?.map (·.hash)) (k.hash w))) Q E s := by
    refine wpAny_bind ?_
    refine wpAny_forIn_list _
      (fun rest b s' => s' = s ∧ b = (none, ()) ∧ ∃ i, rest = (List.range' i (es.size - i)).filter (fun i => (es[i]?.map (·.hash)) == some (k.hash w)) ∧ i ≤ es.size ∧
        ∀ j p, j < i → xs[j]? ≠ some (k, p)) _ ?_ ?_ _ _
      ⟨rfl, rfl, 0, by rw [placesWithHash, List.range_eq_range', Nat.sub_zero], Nat.zero_le _, fun _ _ h => absurd h (Nat.not_lt_zero _)⟩
    · rintro x rest b s' ⟨rfl, rfl, i, hr, hi, hno⟩
      obtain ⟨hix, hxn, hpx, hskip, hrest⟩ := filter_range'_cons _ _ _ _ _ hr.symm
      have hlt : x < es.size := by omega
      have hrest' : rest = (List.range' (x + 1) (es.size - (x + 1))).filter (fun i => (es[i]?.map (·.hash)) == some (k.hash w)) := by rw [hrest]; congr 2; omega
      obtain ⟨⟨k', b, v'⟩, hkv⟩ : ∃ y, xs[x]? = some y := ⟨xs[x]'(by rw [← hsz]; exact hlt), List.getElem?_eq_getElem _⟩
      have hib : KIs s'.heap k' b := his _ (List.mem_of_getElem? hkv)
      have hex : es[x]? = some ⟨k'.hash w, b, v'⟩ := by rw [entAt x, hkv]; rfl
      have hstay : ¬ k' = k → ∀ j p, j < x + 1 → xs[j]? ≠ some (k, p) := fun hne j p hjx hj => by
        rcases Nat.lt_or_ge j i with h | h
        · exact hno j p h hj
        · rcases Nat.lt_or_ge j x with h' | h'
          · exact Bool.false_ne_true ((hskip j h h').symm.trans (haskey j p hj))
          · have : j = x := by omega
            subst this
            rw [hkv] at hj
            injection hj with hj
            injection hj with hj
            exact hne hj
      rw [hex]
      dsimp only
      by_cases hh : (k'.hash w == k.hash w) = true
      · rw [if_pos hh]
        refine wpAny_bind (wpAny_dictEpoch ho hd (wpAny_bind (eqV (x := k') (y := k) hu hib hkey (wpAny_bind (wpAny_dictEpoch ho hd ?_)))))
        show wpAny _ _ (if (ep != ep) = true then _ else _) _ E _
        rw [if_neg (by simp)]
        by_cases hkk : k' = k
        · rw [decide_eq_true hkk]
          subst hkk
          exact wpAny_bind (wpAny_rule (wpAny_pure (wpAny_pure (hsome x _ hkv))))
        · rw [decide_eq_false hkk]
          exact wpAny_bind (wpAny_rule (wpAny_pure ⟨rfl, rfl, x + 1, hrest', hlt, hstay hkk⟩))
      · rw [if_neg hh]
        refine wpAny_pure ⟨rfl, rfl, x + 1, hrest', hlt, hstay fun hkk => ?_⟩
        rw [hkk] at hh; simp at hh
    · rintro b s' ⟨rfl, rfl, i, hr, hi, hno⟩
      refine wpAny_pure (hno' fun j p hj => ?_)
      rcases Nat.lt_or_ge j i with h | h
      · exact hno j p h hj
      · have hjl : j < es.size := by
          rw [hsz]
          rcases Nat.lt_or_ge j xs.length with h' | h'
          · exact h'
          · rw [List.getElem?_eq_none h'] at hj; exact nomatch hj
        have := List.filter_eq_nil_iff.mp hr.symm j (List.mem_range'_1.mpr ⟨h, by omega⟩)
        exact this (haskey j p hj)
  have hst : ∀ v ∈ (placesWithHash es.size (fun i => es[i]?.map (·.hash)) (k.hash w)).filterMap (fun i => es[i]?.map (·.key)), ∃ k', KIs s.heap k' v := fun v hv => by
    obtain ⟨i, _, hi⟩ := List.mem_filterMap.mp hv
    cases hei : es[i]? with
    | none => rw [hei] at hi; cases hi
    | some e =>
      rw [hei] at hi
      obtain rfl : e.key = v := by simpa using hi
      obtain ⟨x, hx, rfl⟩ := hmem e (Array.mem_of_getElem? hei)
      exact ⟨x.1, his x hx⟩
  have rest : wpAny (model prog w) A (do
      let stored := (placesWithHash es.size (fun i => es[i]?.map (·.hash)) (k.hash w)).filterMap fun i => es[i]?.map (·.key)
      let tells ← if stored == [u] then pure false else tableMayTell u stored
      if tells && stored.length ≥ 2 then unsupported "dict.find:order-among-keys-of-one-hash"
      let mut hit : Option Nat := none
      for i in placesWithHash es.size (fun i => es[i]?.map (·.hash)) (k.hash w) do
        if let some e := es[i]? then
          if e.hash == k.hash w then
            let before ← dictEpoch d (keyPart u)
            let same ← eqBool e.key u
            if (← dictEpoch d (keyPart u)) != before then unsupported "dict.changed-during-lookup"
            if same then
              if hit.isSome then unsupported "dict.find:order-among-keys-of-one-hash"
              rule "dict.find.hit"
              if stored.length < 2 then return some i
              hit := some i
            else
              rule "dict.find.same-hash-other-key"
              if tells && !(0 ≤ k.hash w && k.hash w < 32) then unsupported "dict.find:asked-again-or-not-hangs-on-the-table"
      return hit) Q E s := by
    dsimp only
    by_cases hone : (((placesWithHash es.size (fun i => es[i]?.map (·.hash)) (k.hash w)).filterMap (fun i => es[i]?.map (·.key))) == [u]) = true
    · rw [if_pos hone]
      refine wpAny_bind (wpAny_pure ?_)
      rw [if_neg (by simp)]
      exact slow false
    · rw [if_neg hone]
      refine wpAny_bind (tellV hkey hst ?_)
      rw [if_neg (by simp)]
      exact slow false
  unfold dictFind
  try with_reducible refine wpAny_holding ?_
  refine wpAny_bind (wpAny_dictEntries ho hd ?_)
  dsimp only
  cases u with
  | str x t =>
    have hk := strOf hkey.1
    by_cases hs : (es.all fun e => isExactStrKey e.key) = true
    · show wpAny _ _ (if (es.all fun e => isExactStrKey e.key) = true then _ else _) _ E _
      rw [if_pos hs]
      unfold foundByValue
      cases hf : es.findIdx? (fun e => e.key.isStr x) with
      | none =>
        refine wpAny_pure (hno' fun j p hj => ?_)
        have hje : es[j]? = some (entV w (k, p)) := by rw [entAt j, hj]; rfl
        have hx := Array.findIdx?_eq_none_iff.mp hf _ (Array.mem_of_getElem? hje)
        have hq := his _ (List.mem_of_getElem? hj)
        rw [hk] at hq
        obtain ⟨t', et⟩ := textOf hq.1
        simp only [entV] at hx
        have et' : p.1 = .str x t' := et
        rw [et'] at hx
        simp [Value.isStr] at hx
      | some i =>
        obtain ⟨hlt, hi, _⟩ := Array.findIdx?_eq_some_iff_getElem.mp hf
        obtain ⟨⟨k', b, v'⟩, hkv⟩ : ∃ y, xs[i]? = some y := ⟨xs[i]'(by rw [← hsz]; exact hlt), List.getElem?_eq_getElem _⟩
        have hib : KIs s.heap k' b := his _ (List.mem_of_getElem? hkv)
        have hex : es[i]? = some ⟨k'.hash w, b, v'⟩ := by rw [entAt i, hkv]; rfl
        have heq : es[i] = ⟨k'.hash w, b, v'⟩ := by
          rw [Array.getElem?_eq_getElem hlt] at hex; exact Option.some.inj hex
        rw [heq] at hi
        have hkk : k' = k := by
          cases b with
          | str y t' =>
            have e1 := strOf hib.1
            have e2 : y = x := by simpa [Value.isStr] using hi
            rw [e1, hk, e2]
          | _ => simp [Value.isStr] at hi
        dsimp only
        rw [hex]
        dsimp only
        refine wpAny_bind (wpAny_dictEpoch ho hd (wpAny_bind (eqV (x := k') (y := k) hu hib hkey (wpAny_bind (wpAny_dictEpoch ho hd ?_)))))
        show wpAny _ _ (if (ep != ep) = true then _ else _) _ E _
        rw [if_neg (by simp), decide_eq_true hkk]
        exact wpAny_bind (wpAny_rule (wpAny_pure (hsome i _ (hkk ▸ hkv))))
    · show wpAny _ _ (if (es.all fun e => isExactStrKey e.key) = true then _ else _) _ E _
      rw [if_neg hs]
      by_cases hc : ((Value.str x t :: (placesWithHash es.size (fun i => es[i]?.map (·.hash)) (k.hash w)).filterMap (fun i => es[i]?.map (·.key))).all carriedByValue) = true
      · rw [if_pos hc]; exact plain
      · rw [if_neg hc]; exact rest
  | ref a =>
    dsimp only
    have hany : ¬ (es.any fun e => e.key == Value.ref a && e.hash != k.hash w) = true := by
      rw [← Array.any_toList, List.any_eq_true]
      rintro ⟨e, hin, hc⟩
      obtain ⟨x, hx, rfl⟩ := hmem e (Array.mem_toList_iff.mp hin)
      simp only [entV, Bool.and_eq_true, beq_iff_eq, bne_iff_ne, ne_eq] at hc
      obtain ⟨hxa, hne⟩ := hc
      have := his x hx
      rw [hxa] at this
      exact hne (by rw [NestedIs.inj _ _ _ this.1 hkey.1])
    rw [if_neg (show ¬ ((Value.ref a :: (placesWithHash es.size (fun i => es[i]?.map (·.hash)) (k.hash w)).filterMap (fun i => es[i]?.map (·.key))).all carriedByValue) = true by simp [carriedByValue])]
    rw [if_neg hany]
    exact rest
  | none =>
    dsimp only
    by_cases hc : ((Value.none :: (placesWithHash es.size (fun i => es[i]?.map (·.hash)) (k.hash w)).filterMap (fun i => es[i]?.map (·.key))).all carriedByValue) = true
    · rw [if_pos hc]; exact plain
    · rw [if_neg hc]; exact rest
  | bool b =>
    dsimp only
    by_cases hc : ((Value.bool b :: (placesWithHash es.size (fun i => es[i]?.map (·.hash)) (k.hash w)).filterMap (fun i => es[i]?.map (·.key))).all carriedByValue) = true
    · rw [if_pos hc]; exact plain
    · rw [if_neg hc]; exact rest
  | int i t =>
    dsimp only
    by_cases hc : ((Value.int i t :: (placesWithHash es.size (fun i => es[i]?.map (·.hash)) (k.hash w)).filterMap (fun i => es[i]?.map (·.key))).all carriedByValue) = true
    · rw [if_pos hc]; exact plain
    · rw [if_neg hc]; exact rest
  | _ => exact absurd hkey.1 (by intro q; cases q)
theorem getV {d : Addr} {u : Value} {xs : List KEnt} {k : NestedKey} {Q : Option Value → Shared → Prop} (hu : A.units + 8 < cLine) (hkey : KIs s.heap k u) (hm : DictV w s.heap d xs) (his : ∀ x ∈ xs, KIs s.heap x.1 x.2.1) (hn : (xs.map (·.1)).Nodup)
    (h : ∀ t, Q ((atV xs k).map (·.2)) { s with toks := t }) : wpAny (model prog w) A (dictGet d u) Q E s := by
  obtain ⟨o, es, ep, ho, _, hd, he⟩ := hm
  unfold dictGet
  try with_reducible refine wpAny_holding ?_
  refine wpAny_bind (hashV hu hkey (wpAny_bind (findV (s := { s with toks := s.toks + k.draws }) hu hkey ho hd he his hn (fun hno => ?_) fun j p hj => ?_)))
  · rw [atV_none hno] at h
    exact wpAny_pure (h _)
  · rw [atV_get hn hj] at h
    refine wpAny_bind (wpAny_dictEntries (s := { s with toks := s.toks + k.draws }) ho hd ?_)
    rw [← Array.getElem?_toList, he, List.getElem?_map, hj]
    exact wpAny_pure (h _)
theorem stoV_new {xs : List KEnt} {k : NestedKey} (h : atV xs k = none) (u v : Value) : stoV xs k u v = xs ++ [(k, u, v)] := by unfold stoV; rw [h]; rfl
theorem stoV_old {xs : List KEnt} {k : NestedKey} {p : Value × Value} (h : atV xs k = some p) (u v : Value) : stoV xs k u v = xs.map (putV k v) := by unfold stoV; rw [h]; rfl
theorem setHV {d : Addr} {u v : Value} {xs : List KEnt} {k : NestedKey} {Q : Unit → Shared → Prop} (hu : A.units + 8 < cLine) (hkey : KIs s.heap k u) (hm : DictV w s.heap d xs) (his : ∀ x ∈ xs, KIs s.heap x.1 x.2.1) (hn : (xs.map (·.1)).Nodup)
    (hsz : xs.length ≤ sizeLine) (hQ : ∀ h' t, DictV w h' d (stoV xs k u v) → Heap.SameBut d s.heap h' → Q () { s with heap := h', toks := t }) : wpAny (model prog w) A (dictSet d u v) Q E s := by
  obtain ⟨o, es, ep, ho, hc, hd, he⟩ := hm
  have hz : es.size ≤ sizeLine := by rw [← Array.length_toList, he, List.length_map]; exact hsz
  unfold dictSet
  try with_reducible refine wpAny_holding ?_
  refine wpAny_bind (hashV hu hkey ?_)
  unfold dictSetHashed
  try with_reducible refine wpAny_holding ?_
  refine wpAny_bind (findV (s := { s with toks := s.toks + k.draws }) hu hkey ho hd he his hn (fun hno => ?_) fun j p hj => ?_)
  · refine wpAny_bind (wpAny_rule (wpAny_updateDictKeys (hz := hz) (s := { s with toks := s.toks + k.draws }) ho hd (hQ _ _ ⟨_, _, ep + 1, Heap.get?_update_self _ ho (Obj.isFreed_of_dict (Obj.data_mapDictKeys hd _)),
      hc.mapDictKeys _, Obj.data_mapDictKeys hd _, ?_⟩ (Heap.SameBut.update ..))))
    rw [stoV_new (atV_none hno)]
    simp [he, entV]
  · refine wpAny_bind (wpAny_rule (wpAny_bind (wpAny_updateDict (s := { s with toks := s.toks + k.draws }) ho hd (wpAny_point (hQ _ _ ⟨_, _, ep, Heap.get?_update_self _ ho (Obj.isFreed_of_dict (Obj.data_mapDict hd _)),
      hc.mapDict _, Obj.data_mapDict hd _, ?_⟩ (Heap.SameBut.update ..))))))
    rw [stoV_old (atV_get hn hj)]
    have := modV w k v hn hj
    rw [← he] at this
    obtain ⟨l⟩ := es
    simpa using this
theorem inV {d : Addr} {u : Value} {xs : List KEnt} {k : NestedKey} {Q : Value → Shared → Prop} (hu : A.units + 9 < cLine) (hkey : KIs s.heap k u) (hs : (d == sysModules) = false) (hm : DictV w s.heap d xs) (his : ∀ x ∈ xs, KIs s.heap x.1 x.2.1) (hn : (xs.map (·.1)).Nodup)
    (h : ∀ t, Q (.bool (atV xs k).isSome) { s with toks := t }) : wpAny (model prog w) A (compareOp .In u (.ref d)) Q E s := by
  show wpAny _ _ (do return .bool (← contains (.ref d) u)) Q E s
  refine wpAny_bind ?_
  unfold contains
  try with_reducible refine wpAny_holding ?_
  refine wpAny_bind (wpAny_specialOf hm.typeIs slot_dict_contains.lookup ?_)
  show wpAny _ _ (if (some (Value.builtin "dict.__contains__") == some Value.none) = true then _ else _) _ E s
  rw [if_neg (by rw [beq_builtin_none]; exact Bool.false_ne_true)]
  refine wpAny_bind (wpAny_callSpecialUnlessNone?_slot (name := Str.ofString "__contains__") hm.typeIs slot_dict_contains (wpAny_call_entry slot_dict_contains hm.typeIs entry_dict_contains ?_ (args_dict_contains _ _)))
  show wpAny _ _ (dictGet d u >>= _) _ _ s
  refine wpAny_bind (getV (by rw [Around.in1_units]; omega) hkey hm his hn fun t => ?_)
  cases hf : atV xs k with
  | some p =>
    rw [hf] at h
    show wpAny _ _ (ret (.bool true)) _ _ _
    exact wpAny_pure ⟨_, rfl, wpAny_truthy_bool (wpAny_pure (h t))⟩
  | none =>
    rw [hf] at h
    show wpAny _ _ (Builtin.Dict.pendingKey? d u >>= _) _ _ _
    exact wpAny_bind (wpAny_pendingKey_other hs (wpAny_pure ⟨_, rfl, wpAny_truthy_bool (wpAny_pure (h t))⟩))
theorem notInV {d : Addr} {u : Value} {xs : List KEnt} {k : NestedKey} {Q : Value → Shared → Prop} (hu : A.units + 9 < cLine) (hkey : KIs s.heap k u) (hs : (d == sysModules) = false) (hm : DictV w s.heap d xs) (his : ∀ x ∈ xs, KIs s.heap x.1 x.2.1) (hn : (xs.map (·.1)).Nodup)
    (h : ∀ t, Q (.bool (!(atV xs k).isSome)) { s with toks := t }) : wpAny (model prog w) A (compareOp .NotIn u (.ref d)) Q E s := by
  show wpAny _ _ (do return .bool (!(← contains (.ref d) u))) Q E s
  refine wpAny_bind ?_
  unfold contains
  try with_reducible refine wpAny_holding ?_
  refine wpAny_bind (wpAny_specialOf hm.typeIs slot_dict_contains.lookup ?_)
  show wpAny _ _ (if (some (Value.builtin "dict.__contains__") == some Value.none) = true then _ else _) _ E s
  rw [if_neg (by rw [beq_builtin_none]; exact Bool.false_ne_true)]
  refine wpAny_bind (wpAny_callSpecialUnlessNone?_slot (name := Str.ofString "__contains__") hm.typeIs slot_dict_contains (wpAny_call_entry slot_dict_contains hm.typeIs entry_dict_contains ?_ (args_dict_contains _ _)))
  show wpAny _ _ (dictGet d u >>= _) _ _ s
  refine wpAny_bind (getV (by rw [Around.in1_units]; omega) hkey hm his hn fun t => ?_)
  cases hf : atV xs k with
  | some p =>
    rw [hf] at h
    show wpAny _ _ (ret (.bool true)) _ _ _
    exact wpAny_pure ⟨_, rfl, wpAny_truthy_bool (wpAny_pure (h t))⟩
  | none =>
    rw [hf] at h
    show wpAny _ _ (Builtin.Dict.pendingKey? d u >>= _) _ _ _
    exact wpAny_bind (wpAny_pendingKey_other hs (wpAny_pure ⟨_, rfl, wpAny_truthy_bool (wpAny_pure (h t))⟩))
theorem getItemV {d : Addr} {u : Value} {xs : List KEnt} {k : NestedKey} {p : Value × Value} {Q : Value → Shared → Prop} (hu : A.units + 9 < cLine) (hkey : KIs s.heap k u) (hm : DictV w s.heap d xs) (his : ∀ x ∈ xs, KIs s.heap x.1 x.2.1) (hn : (xs.map (·.1)).Nodup)
    (hp : atV xs k = some p) (h : ∀ t, Q p.2 { s with toks := t }) : wpAny (model prog w) A (getItem (.ref d) u) Q E s := by
  unfold getItem
  try with_reducible refine wpAny_holding ?_
  refine wpAny_bind (wpAny_sequenceKey hm.typeIs (by decide) ?_)
  refine wpAny_bind (wpAny_callSpecial?_slot (name := Str.ofString "__getitem__") hm.typeIs slot_dict_getitem (wpAny_call_entry slot_dict_getitem hm.typeIs entry_dict_getitem ?_ (args_dict_getitem _ _)))
  show wpAny _ _ (dictGet d u >>= _) _ _ s
  refine wpAny_bind (getV (by rw [Around.in1_units]; omega) hkey hm his hn fun t => ?_)
  rw [hp]
  exact wpAny_pure ⟨p.2, rfl, wpAny_pure (h t)⟩
theorem setItemV {d : Addr} {u v : Value} {xs : List KEnt} {k : NestedKey} {Q : Unit → Shared → Prop} (hu : A.units + 9 < cLine) (hkey : KIs s.heap k u) (hm : DictV w s.heap d xs) (his : ∀ x ∈ xs, KIs s.heap x.1 x.2.1) (hn : (xs.map (·.1)).Nodup)
    (hsz : xs.length ≤ sizeLine) (hQ : ∀ h' t, DictV w h' d (stoV xs k u v) → Heap.SameBut d s.heap h' → Q () { s with heap := h', toks := t }) : wpAny (model prog w) A (setItem (.ref d) u v) Q E s := by
  unfold setItem
  try with_reducible refine wpAny_holding ?_
  refine wpAny_bind (wpAny_sequenceKey hm.typeIs (by decide) ?_)
  refine wpAny_bind (wpAny_callSpecial?_slot (name := Str.ofString "__setitem__") hm.typeIs slot_dict_setitem (wpAny_call_entry slot_dict_setitem hm.typeIs entry_dict_setitem ?_ (args_dict_setitem _ _ _)))
  show wpAny _ _ (Builtin.Dict.notOrdered "__setitem__" ⟨[.ref d, u, v], []⟩ >>= _) _ _ s
  refine wpAny_bind (wpAny_notOrdered_dict hm.typeIs ?_)
  show wpAny _ _ (dictSet d u v >>= _) _ _ s
  exact wpAny_bind (setHV (by rw [Around.in1_units]; omega) hkey hm his hn hsz fun h' t hm' hs' => wpAny_pure ⟨.none, rfl, wpAny_pure (hQ h' t hm' hs')⟩)
/-- d.get(u) -/
theorem meetsGetV (d : Addr) (u : Value) (hs : (d == sysModules) = false) : MeetsIn prog w (Builtin.«dict.get» ⟨[.ref d, u], []⟩) (fun A R s => A.units + 9 < cLine ∧ ∃ k xs, KIs s.heap k u ∧ DictV w s.heap d xs ∧ (∀ x ∈ xs, KIs s.heap x.1 x.2.1) ∧ (xs.map (·.1)).Nodup ∧
      ∀ t, R (.ok (.ret (((atV xs k).map (·.2)).getD .none))) { s with toks := t }) :=
  .of_wp fun A R s ⟨hu, k, xs, hkey, hm, his, hn, h⟩ => by
    show wpAny _ _ (dictGet d u >>= _) _ _ s
    refine wpAny_bind (getV (by rw [Around.in1_units]; omega) hkey hm his hn fun t => ?_)
    cases hf : (atV xs k).map (·.2) with
    | some v =>
      rw [hf] at h
      exact wpAny_pure ⟨v, rfl, h t⟩
    | none =>
      rw [hf] at h
      show wpAny _ _ (Builtin.Dict.missed d u >>= _) _ _ _
      exact wpAny_bind (wpAny_missed_other hs (wpAny_pure ⟨.none, rfl, h t⟩))
theorem meetsGetV2 (d : Addr) (u dflt : Value) (hs : (d == sysModules) = false) : MeetsIn prog w (Builtin.«dict.get» ⟨[.ref d, u, dflt], []⟩) (fun A R s => A.units + 9 < cLine ∧ ∃ k xs, KIs s.heap k u ∧ DictV w s.heap d xs ∧ (∀ x ∈ xs, KIs s.heap x.1 x.2.1) ∧ (xs.map (·.1)).Nodup ∧
      ∀ t, R (.ok (.ret (((atV xs k).map (·.2)).getD dflt))) { s with toks := t }) :=
  .of_wp fun A R s ⟨hu, k, xs, hkey, hm, his, hn, h⟩ => by
    show wpAny _ _ (dictGet d u >>= _) _ _ s
    refine wpAny_bind (getV (by rw [Around.in1_units]; omega) hkey hm his hn fun t => ?_)
    cases hf : (atV xs k).map (·.2) with
    | some v =>
      rw [hf] at h
      exact wpAny_pure ⟨v, rfl, h t⟩
    | none =>
      rw [hf] at h
      show wpAny _ _ (Builtin.Dict.missed d u >>= _) _ _ _
      exact wpAny_bind (wpAny_missed_other hs (wpAny_pure ⟨dflt, rfl, h t⟩))
end
end L2X

set_option Elab.async false
set_option linter.all false
set_option maxRecDepth 100000
/-! PyD: pure data over the abstract heap; what a piece of a def denotes. -/
namespace PyD
open PySem L2 L2X

/-- the members of a set -/
inductive SK where
  | ints (ns : List Int)
  | tups (nss : List (List Int))
/-- pure data -/
inductive D where
  | set (k : SK)
  | non
  | bl (b : Bool)
  | int (i : Int)
  | str (s : Str)
  | tup (ds : List D)
  | lst (ds : List D)
  | scr (ns : List Int)
  | obj (c : Str) (ns : List Str) (vs : List D)
  | dic (ks vs : List D)

/-- what is fixed through the law -/
structure G where
  P : Program
  w : World
  K : PySem.W.Frag
  mg : Str → Option Value
  base : Heap
  cA : Str → Addr

/-- a raised exception as data -/
structure Exc where
  c : Str
  fs : List (Str × D)

inductive Out (α : Type) where
  | ok (a : α)
  | exc (x : Exc)
  | bad

namespace Out
@[reducible] def bind {α β : Type} (o : Out α) (f : α → Out β) : Out β := match o with
  | .ok a => f a
  | .exc x => .exc x
  | .bad => .bad
@[simp] theorem bind_ok {α β : Type} (a : α) (f : α → Out β) : (Out.ok a).bind f = f a := rfl
@[simp] theorem bind_exc {α β : Type} (x : Exc) (f : α → Out β) : (Out.exc x : Out α).bind f = .exc x := rfl
@[simp] theorem bind_bad {α β : Type} (f : α → Out β) : (Out.bad : Out α).bind f = .bad := rfl
end Out

/-! ### data in the heap -/
/-- a tuple that has no dict of its own -/
def TupR (K : PySem.W.Frag) (F : Hp) (a : Addr) (vs : List V) : Prop :=
  (∃ o, F a = some (.frz o (.tup vs)) ∧ TupOb o) ∨
    ∃ (o : Obj) (its : Array Value) (n : Nat), K.lookup a = some o ∧ o.cls = .type "tuple" ∧ o.dict = none ∧ o.data = .seq its n ∧ its.size ≤ sizeLine ∧ Vals vs its.toList
theorem TupR.sq {K : PySem.W.Frag} {F : Hp} {a : Addr} {vs : List V} (h : TupR K F a vs) : SqT K F a vs := by
  rcases h with ⟨o, h, _⟩ | ⟨o, its, n, h1, h2, _, h3⟩
  · exact .inl (.inr ⟨o, h⟩)
  · exact .inr ⟨o, its, n, h1, h2, h3⟩
/-- a dict: hash, key and value of each entry, in order -/
def dicO (a : Addr) (ents : List (Int × V × V)) : HO := .ext fun h => (a == sysModules) = false ∧ ents.length ≤ sizeLine ∧ ∃ (o : Obj) (es : Array DictEntry) (ep : Nat), h.get? a = some o ∧ o.ExactDict ∧ o.data = .dict es ep ∧
  Paired (fun (p : Int × V × V) (e : DictEntry) => e.hash = p.1 ∧ RelV p.2.1 e.key ∧ RelV p.2.2 e.val) ents es.toList
mutual
def keyOf : D → Option NestedKey
  | .non => some .none
  | .bl b => some (.num (if b = true then 1 else 0))
  | .int i => some (.num i)
  | .str s => some (.text s)
  | .tup ds => (keysOf ds).map .tup
  | _ => none
def keysOf : List D → Option (List NestedKey)
  | [] => some []
  | d :: ds => (keyOf d).bind fun k => (keysOf ds).map fun ks => k :: ks
end
def DicK (w : World) (ents : List (Int × V × V)) (ks : List D) (nks : List NestedKey) : Prop :=
  keysOf ks = some nks ∧ (∀ k ∈ nks, k.depth ≤ 8) ∧ nks.Nodup ∧ ents.map (·.1) = nks.map (NestedKey.hash w)
/-- a set of whole numbers; a set of tuples of them -/
def SetAt (g : G) (F : Hp) (a : Addr) : SK → Prop
  | .ints ns => ∃ S n, F a = some (SetO g.w a S n) ∧ (∀ k, S k = true ↔ k ∈ ns) ∧ ns.Nodup ∧ ns.length = n
  | .tups nss => ∃ L, F a = some (SetTO g.P g.w a L) ∧ (∀ p ∈ L, TupR g.K F p.1 (p.2.map V.int)) ∧ (L.map (·.2)).Perm nss
mutual
inductive Is (g : G) (F : Hp) : V → D → Prop
  | set {a : Addr} {k : SK} : PyD.SetAt g F a k → Is g F (.ref a) (.set k)
  | non : Is g F .non .non
  | bl (b : Bool) : Is g F (.bl b) (.bl b)
  | int (i : Int) : Is g F (.int i) (.int i)
  | str (s : Str) : Is g F (.str s) (.str s)
  | tup {a : Addr} {vs : List V} {ds : List D} : TupR g.K F a vs → IsAll g F vs ds → Is g F (.ref a) (.tup ds)
  | lst {a : Addr} {vs : List V} {ds : List D} : F a = some (.lst vs) → IsAll g F vs ds → Is g F (.ref a) (.lst ds)
  | scr {a : Addr} {ns : List Int} : SqL g.K F a (ns.map V.int) → Is g F (.ref a) (.scr ns)
  | obj {a C dx : Addr} {fs : List (Str × V)} {c : Str} {ns : List Str} {ds : List D} : F a = some (.ins C dx fs) → C = g.cA c → fs.map (·.1) = ns → IsAll g F (fs.map (·.2)) ds → Is g F (.ref a) (.obj c ns ds)
  | dic {a : Addr} {ents : List (Int × V × V)} {ks vs : List D} {nks : List NestedKey} : F a = some (dicO a ents) → IsAll g F (ents.map (·.2.1)) ks → IsAll g F (ents.map (·.2.2)) vs → DicK g.w ents ks nks → Is g F (.ref a) (.dic ks vs)
inductive IsAll (g : G) (F : Hp) : List V → List D → Prop
  | nil : IsAll g F [] []
  | cons {v : V} {vs : List V} {d : D} {ds : List D} : Is g F v d → IsAll g F vs ds → IsAll g F (v :: vs) (d :: ds)
end

abbrev Le (F F' : Hp) : Prop := ∀ a o, F a = some o → F' a = some o
theorem Le.refl (F : Hp) : Le F F := fun _ _ h => h
theorem Le.trans {A B C : Hp} (h : Le A B) (k : Le B C) : Le A C := fun a o e => k a o (h a o e)
theorem Le.rd {F F' : Hp} (h : Le F F') {a : Addr} {u : HO} (r : Rd F a u) : Rd F' a u := by
  rcases r with r | ⟨o, r⟩
  · exact .inl (h _ _ r)
  · exact .inr ⟨o, h _ _ r⟩
theorem Le.sqL {F F' : Hp} (h : Le F F') {K : PySem.W.Frag} {a : Addr} {xs : List V} (r : SqL K F a xs) : SqL K F' a xs := by
  rcases r with r | r
  · exact .inl (h.rd r)
  · exact .inr r
theorem Le.sqT {F F' : Hp} (h : Le F F') {K : PySem.W.Frag} {a : Addr} {xs : List V} (r : SqT K F a xs) : SqT K F' a xs := by
  rcases r with r | r
  · exact .inl (h.rd r)
  · exact .inr r
theorem Le.tupR {F F' : Hp} (h : Le F F') {K : PySem.W.Frag} {a : Addr} {xs : List V} (r : TupR K F a xs) : TupR K F' a xs := by
  rcases r with ⟨o, r, b⟩ | r
  · exact .inl ⟨o, h _ _ r, b⟩
  · exact .inr r
theorem Le.none {F F' : Hp} (h : Le F F') {a : Addr} (e : F' a = Option.none) : F a = Option.none := by
  cases q : F a with
  | none => rfl
  | some o => rw [h a o q] at e; cases e
theorem Le.upd {F : Hp} {p : Addr} {o : HO} (h : F p = Option.none) : Le F (upd F p o) := fun a u e => by
  rw [upd_ne (ne_of_none e h)]; exact e
theorem Le.upd2 {F H : Hp} (h : Le F H) {p : Addr} {o : HO} : Le (L2.upd F p o) (L2.upd H p o) := fun a u e => by
  by_cases q : a = p
  · subst q; rw [upd_same] at e ⊢; exact e
  · rw [upd_ne q] at e ⊢; exact h _ _ e
theorem Le.updR {F H : Hp} (h : Le F H) {p : Addr} {o : HO} (n : F p = Option.none) : Le F (L2.upd H p o) := fun a u e => by
  rw [upd_ne (ne_of_none e n)]; exact h _ _ e

theorem SetAt.mono {g : G} {F F' : Hp} (h : Le F F') {a : Addr} : ∀ {k : SK}, PyD.SetAt g F a k → PyD.SetAt g F' a k
  | .ints _, ⟨S, n, h1, r⟩ => ⟨S, n, h _ _ h1, r⟩
  | .tups _, ⟨L, h1, h2, r⟩ => ⟨L, h _ _ h1, fun p hp => h.tupR (h2 p hp), r⟩
mutual
theorem Is.mono {g : G} {F F' : Hp} (h : Le F F') : ∀ {v : V} {d : D}, Is g F v d → Is g F' v d
  | _, _, .set r => .set (SetAt.mono h r)
  | _, _, .non => .non
  | _, _, .bl b => .bl b
  | _, _, .int i => .int i
  | _, _, .str s => .str s
  | _, _, .tup r t => .tup (h.tupR r) (IsAll.mono h t)
  | _, _, .lst r t => .lst (h _ _ r) (IsAll.mono h t)
  | _, _, .scr r => .scr (h.sqL r)
  | _, _, .obj r c n t => .obj (h _ _ r) c n (IsAll.mono h t)
  | _, _, .dic r t u k => .dic (h _ _ r) (IsAll.mono h t) (IsAll.mono h u) k
theorem IsAll.mono {g : G} {F F' : Hp} (h : Le F F') : ∀ {vs : List V} {ds : List D}, IsAll g F vs ds → IsAll g F' vs ds
  | _, _, .nil => .nil
  | _, _, .cons r t => .cons (Is.mono h r) (IsAll.mono h t)
end

section
variable {g : G} {F : Hp}
theorem IsAll.length : ∀ {vs : List V} {ds : List D}, IsAll g F vs ds → vs.length = ds.length
  | _, _, .nil => rfl
  | _, _, .cons _ t => by rw [List.length_cons, List.length_cons, t.length]
theorem IsAll.get : ∀ {vs : List V} {ds : List D} {i : Nat} {d : D}, IsAll g F vs ds → ds[i]? = some d → ∃ v, vs[i]? = some v ∧ Is g F v d
  | _, _, _, _, .nil, e => by simp at e
  | _, _, 0, _, .cons r _, e => by simp at e; subst e; exact ⟨_, rfl, r⟩
  | _, _, i + 1, _, .cons _ t, e => by
    obtain ⟨v, h1, h2⟩ := t.get (i := i) (by simpa using e)
    exact ⟨v, by simpa using h1, h2⟩
theorem IsAll.getV : ∀ {vs : List V} {ds : List D} {i : Nat} {v : V}, IsAll g F vs ds → vs[i]? = some v → ∃ d, ds[i]? = some d ∧ Is g F v d
  | _, _, _, _, .nil, e => by simp at e
  | _, _, 0, _, .cons r _, e => by simp at e; subst e; exact ⟨_, rfl, r⟩
  | _, _, i + 1, _, .cons _ t, e => by
    obtain ⟨v, h1, h2⟩ := t.getV (i := i) (by simpa using e)
    exact ⟨v, by simpa using h1, h2⟩
theorem IsAll.append : ∀ {vs ws : List V} {ds es : List D}, IsAll g F vs ds → IsAll g F ws es → IsAll g F (vs ++ ws) (ds ++ es)
  | _, _, _, _, .nil, s => s
  | _, _, _, _, .cons r t, s => .cons r (t.append s)
theorem IsAll.set {v : V} {d : D} (r : Is g F v d) : ∀ {vs : List V} {ds : List D} (i : Nat), IsAll g F vs ds → IsAll g F (vs.set i v) (ds.set i d)
  | _, _, _, .nil => .nil
  | _, _, 0, .cons _ t => .cons r t
  | _, _, i + 1, .cons q t => .cons q (IsAll.set r i t)
theorem IsAll.take : ∀ {vs : List V} {ds : List D} (n : Nat), IsAll g F vs ds → IsAll g F (vs.take n) (ds.take n)
  | _, _, 0, _ => .nil
  | _, _, _ + 1, .nil => .nil
  | _, _, n + 1, .cons r t => .cons r (t.take n)
theorem IsAll.drop : ∀ {vs : List V} {ds : List D} (n : Nat), IsAll g F vs ds → IsAll g F (vs.drop n) (ds.drop n)
  | _, _, 0, r => r
  | _, _, _ + 1, .nil => .nil
  | _, _, n + 1, .cons _ t => t.drop n
theorem IsAll.eraseIdx : ∀ {vs : List V} {ds : List D} (i : Nat), IsAll g F vs ds → IsAll g F (vs.eraseIdx i) (ds.eraseIdx i)
  | _, _, _, .nil => .nil
  | _, _, 0, .cons _ t => t
  | _, _, i + 1, .cons r t => .cons r (t.eraseIdx i)
theorem IsAll.reverse {vs : List V} {ds : List D} (h : IsAll g F vs ds) : IsAll g F vs.reverse ds.reverse := by
  induction h using IsAll.rec (motive_1 := fun _ _ _ => True) with
  | nil => exact .nil
  | cons r t _ ih => rw [List.reverse_cons, List.reverse_cons]; exact ih.append (.cons r .nil)
  | _ => trivial
theorem IsAll.ints : ∀ (ns : List Int), IsAll g F (ns.map V.int) (ns.map D.int)
  | [] => .nil
  | n :: ns => .cons (.int n) (IsAll.ints ns)
end
end PyD

set_option Elab.async false
set_option linter.all false
set_option maxRecDepth 100000
namespace PyD
open PySem L2

abbrev Env := List (Option D)

/-- fz: shared, never changed; ow: this name alone holds it, it may be changed; an: a parameter that is read, shared or a caller's own -/
inductive Md where
  | fz | ow | an
  deriving DecidableEq

/-- the entry: the frozen part, the heap, the objects that may be changed, the slots that hold them -/
structure Base where
  F0 : Hp
  H0 : Hp
  A0 : List Addr
  pins : List (Nat × Addr)

/-- an object that is owned, by its content -/
inductive CellR (g : G) (F : Hp) : Addr → HO → D → Prop
  | lst {a : Addr} {vs : List V} {ds : List D} : IsAll g F vs ds → CellR g F a (.lst vs) (.lst ds)
  | dic {a : Addr} {ents : List (Int × V × V)} {ks vs : List D} {nks : List NestedKey} : IsAll g F (ents.map (·.2.1)) ks → IsAll g F (ents.map (·.2.2)) vs → DicK g.w ents ks nks → CellR g F a (dicO a ents) (.dic ks vs)

theorem CellR.mono {g : G} {F F' : Hp} (h : Le F F') {a : Addr} {o : HO} {d : D} (c : CellR g F a o d) : CellR g F' a o d := by
  cases c with
  | lst t => exact .lst (t.mono h)
  | dic t u k => exact .dic (t.mono h) (u.mono h) k
theorem CellR.is {g : G} {F : Hp} {a : Addr} {o : HO} {d : D} (c : CellR g F a o d) (h : F a = some o) : Is g F (.ref a) d := by
  cases c with
  | lst t => exact .lst h t
  | dic t u k => exact .dic h t u k

/-- what is owned is not shared -/
theorem CellR.apart {g : G} {F : Hp} {a : Addr} {o : HO} {d : D} (c : CellR g F a o d) (n : F a = none) (h : Is g F (.ref a) d) : False := by
  cases c with
  | lst t => cases h with | lst r _ => rw [n] at r; cases r
  | dic t u k => cases h with | dic r _ _ _ => rw [n] at r; cases r
structure Bx (B : Base) (F H : Hp) : Prop where
  sub : Le F H
  ext : Le B.F0 F
  keep : ∀ a o, B.H0 a = some o → a ∉ B.A0 → H a = some o
  old : ∀ a o, B.H0 a = some o → a ∉ B.A0 → F a = B.F0 a
  aa : ∀ a, a ∈ B.A0 → ∃ o, H a = some o

def VarR (g : G) (B : Base) (F H : Hp) : Md → V → D → Prop
  | .fz, v, d => Is g F v d
  | .ow, v, d => ∃ a o, v = .ref a ∧ H a = some o ∧ CellR g F a o d ∧ F a = none ∧ (a ∈ B.A0 ∨ B.H0 a = none)
  | .an, v, d => Is g F v d ∨ ∃ a o, v = .ref a ∧ B.H0 a = some o ∧ a ∉ B.A0 ∧ CellR g F a o d

def md (μ : List Md) (i : Nat) : Md := (μ[i]?).getD .fz

structure Rel (g : G) (B : Base) (F H : Hp) (μ : List Md) (ρ : Env) (σ : St) : Prop extends Bx B F H where
  lr : ρ.length = σ.length
  lm : μ.length = σ.length
  vars : ∀ i d, ρ[i]? = some (some d) → ∃ v, σ[i]? = some (some v) ∧ VarR g B F H (md μ i) v d
  sep : ∀ i j a, i ≠ j → md μ i = .ow → md μ j = .ow → σ[i]? = some (some (.ref a)) → σ[j]? = some (some (.ref a)) → False
  pin : ∀ p ∈ B.pins, σ[p.1]? = some (some (.ref p.2))
  there : ∀ i, md μ i = .ow → ∃ d, ρ[i]? = some (some d)

/-- owned now -/
def Own (μ : List Md) (σ : St) (a : Addr) : Prop := ∃ i, md μ i = .ow ∧ σ[i]? = some (some (.ref a))

/-- from F, H on: what is not owned stays -/
structure Step (μ : List Md) (σ : St) (F H F' H' : Hp) : Prop where
  f : Le F F'
  h : ∀ a o, H a = some o → ¬ Own μ σ a → H' a = some o
  n : ∀ a o, H a = some o → F' a = F a
  t : ∀ a o, H a = some o → ∃ o', H' a = some o'

section
variable {g : G} {B : Base} {F H F' H' : Hp} {μ : List Md} {ρ ρ' : Env} {σ : St} {p a : Addr} {o : HO} {i : Nat} {v : V} {d : D}

theorem md_set_eq (h : i < μ.length) {m : Md} : md (μ.set i m) i = m := by
  unfold md; rw [List.getElem?_set_self h]; rfl
theorem md_set_ne {j : Nat} (h : j ≠ i) {m : Md} : md (μ.set i m) j = md μ j := by
  unfold md; rw [List.getElem?_set_ne (Ne.symm h)]

theorem Bx.fresh (b : Bx B F H) (h : H p = none) : F p = none ∧ B.H0 p = none ∧ p ∉ B.A0 := by
  refine ⟨b.sub.none h, ?_, fun q => ?_⟩
  · cases e : B.H0 p with
    | none => rfl
    | some o =>
      by_cases q : p ∈ B.A0
      · obtain ⟨u, hu⟩ := b.aa p q; rw [h] at hu; cases hu
      · have := b.keep p o e q; rw [h] at this; cases this
  · obtain ⟨u, hu⟩ := b.aa p q; rw [h] at hu; cases hu

theorem Bx.new (b : Bx B F H) (h : H p = none) (o : HO) : Bx B (upd F p o) (upd H p o) where
  sub := b.sub.upd2
  ext := b.ext.trans (Le.upd (b.fresh h).1)
  keep := fun a u e n => by rw [upd_ne (ne_of_none (b.keep a u e n) h)]; exact b.keep a u e n
  old := fun a u e n => by rw [upd_ne (ne_of_none (b.keep a u e n) h)]; exact b.old a u e n
  aa := fun a e => by
    obtain ⟨u, hu⟩ := b.aa a e
    exact ⟨u, by rw [upd_ne (ne_of_none hu h)]; exact hu⟩
theorem Bx.newH (b : Bx B F H) (h : H p = none) (o : HO) : Bx B F (upd H p o) where
  sub := b.sub.updR (b.fresh h).1
  ext := b.ext
  keep := fun a u e n => by rw [upd_ne (ne_of_none (b.keep a u e n) h)]; exact b.keep a u e n
  old := b.old
  aa := fun a e => by
    obtain ⟨u, hu⟩ := b.aa a e
    exact ⟨u, by rw [upd_ne (ne_of_none hu h)]; exact hu⟩

theorem VarR.new {m : Md} (hF : F p = none) (hH : H p = none) (h : VarR g B F H m v d) : VarR g B (upd F p o) (upd H p o) m v d := by
  cases m with
  | fz => exact Is.mono (Le.upd hF) h
  | ow =>
    obtain ⟨a, u, rfl, e, c, n, x⟩ := h
    have q : a ≠ p := ne_of_none e hH
    exact ⟨a, u, rfl, by rw [upd_ne q]; exact e, c.mono (Le.upd hF), by rw [upd_ne q]; exact n, x⟩
  | an =>
    rcases h with h | ⟨a, u, rfl, e, n, c⟩
    · exact .inl (Is.mono (Le.upd hF) h)
    · exact .inr ⟨a, u, rfl, e, n, c.mono (Le.upd hF)⟩
theorem VarR.newH {m : Md} (hH : H p = none) (h : VarR g B F H m v d) : VarR g B F (upd H p o) m v d := by
  cases m with
  | fz => exact h
  | ow =>
    obtain ⟨a, u, rfl, e, c, n, x⟩ := h
    exact ⟨a, u, rfl, by rw [upd_ne (ne_of_none e hH)]; exact e, c, n, x⟩
  | an => exact h

/-- a new shared object -/
theorem Rel.new (R : Rel g B F H μ ρ σ) (h : H p = none) (o : HO) : Rel g B (upd F p o) (upd H p o) μ ρ σ where
  toBx := R.toBx.new h o
  lr := R.lr
  lm := R.lm
  vars := fun i d e => by
    obtain ⟨v, h1, h2⟩ := R.vars i d e
    exact ⟨v, h1, h2.new (R.toBx.fresh h).1 h⟩
  sep := R.sep
  pin := R.pin
  there := R.there
/-- a new object, not shared yet -/
theorem Rel.newH (R : Rel g B F H μ ρ σ) (h : H p = none) (o : HO) : Rel g B F (upd H p o) μ ρ σ where
  toBx := R.toBx.newH h o
  lr := R.lr
  lm := R.lm
  vars := fun i d e => by
    obtain ⟨v, h1, h2⟩ := R.vars i d e
    exact ⟨v, h1, h2.newH h⟩
  sep := R.sep
  pin := R.pin
  there := R.there

theorem Step.refl : Step μ σ F H F H := ⟨Le.refl _, fun _ _ e _ => e, fun _ _ _ => rfl, fun _ o e => ⟨o, e⟩⟩
theorem Step.new (hF : F p = none) (h : H p = none) : Step μ σ F H (upd F p o) (upd H p o) :=
  ⟨Le.upd hF, fun a u e _ => by rw [upd_ne (ne_of_none e h)]; exact e, fun a u e => by rw [upd_ne (ne_of_none e h)], fun a u e => ⟨u, by rw [upd_ne (ne_of_none e h)]; exact e⟩⟩
theorem Step.newH (h : H p = none) : Step μ σ F H F (upd H p o) :=
  ⟨Le.refl _, fun a u e _ => by rw [upd_ne (ne_of_none e h)]; exact e, fun _ _ _ => rfl, fun a u e => ⟨u, by rw [upd_ne (ne_of_none e h)]; exact e⟩⟩
/-- what is owned stands still -/
theorem Rel.own_there (R : Rel g B F H μ ρ σ) {d : D} (hm : md μ i = .ow) (hr : ρ[i]? = some (some d)) : ∃ a o, σ[i]? = some (some (.ref a)) ∧ H a = some o ∧ CellR g F a o d ∧ F a = none ∧ (a ∈ B.A0 ∨ B.H0 a = none) := by
  obtain ⟨v, h1, h2⟩ := R.vars i d hr
  rw [hm] at h2
  obtain ⟨a, o, rfl, x⟩ := h2
  exact ⟨a, o, h1, x⟩
theorem Rel.sig (R : Rel g B F H μ ρ σ) {d : D} (hr : ρ[i]? = some (some d)) : i < σ.length := by
  rw [← R.lr]; exact (List.getElem?_eq_some_iff.mp hr).1

/-- a slot gets shared data -/
theorem Rel.set (R : Rel g B F H μ ρ σ) (hp : ∀ p ∈ B.pins, p.1 ≠ i) (h : Is g F v d) : Rel g B F H (μ.set i .fz) (ρ.set i (some d)) (σ.set i (some v)) where
  toBx := R.toBx
  lr := by simpa using R.lr
  lm := by simpa using R.lm
  vars := fun j e q => by
    by_cases x : j = i
    · subst x
      have hl : j < ρ.length := by have := (List.getElem?_eq_some_iff.mp q).1; simpa using this
      rw [List.getElem?_set_self hl] at q
      cases q
      refine ⟨v, by rw [List.getElem?_set_self (by rw [← R.lr]; exact hl)], ?_⟩
      rw [md_set_eq (by rw [R.lm, ← R.lr]; exact hl)]
      exact h
    · rw [List.getElem?_set_ne (Ne.symm x)] at q
      obtain ⟨u, h1, h2⟩ := R.vars j e q
      exact ⟨u, by rw [List.getElem?_set_ne (Ne.symm x)]; exact h1, by rw [md_set_ne x]; exact h2⟩
  sep := fun j k a n hj hk sj sk => by
    have f : ∀ j, md (μ.set i .fz) j = .ow → j ≠ i ∧ md μ j = .ow := fun j hj => by
      by_cases x : j = i
      · subst x
        by_cases hl : j < μ.length
        · rw [md_set_eq hl] at hj; cases hj
        · unfold md at hj; rw [List.getElem?_eq_none (by simpa using hl)] at hj; cases hj
      · exact ⟨x, by rw [md_set_ne x] at hj; exact hj⟩
    obtain ⟨xj, hj⟩ := f j hj
    obtain ⟨xk, hk⟩ := f k hk
    rw [List.getElem?_set_ne (Ne.symm xj)] at sj
    rw [List.getElem?_set_ne (Ne.symm xk)] at sk
    exact R.sep j k a n hj hk sj sk
  pin := fun p hpm => by rw [List.getElem?_set_ne (Ne.symm (hp p hpm))]; exact R.pin p hpm
  there := fun j hj => by
    have x : j ≠ i := fun x => by
      subst x
      by_cases hl : j < μ.length
      · rw [md_set_eq hl] at hj; cases hj
      · unfold md at hj; rw [List.getElem?_eq_none (by simpa using hl)] at hj; cases hj
    rw [md_set_ne x] at hj
    obtain ⟨e, he⟩ := R.there j hj
    exact ⟨e, by rw [List.getElem?_set_ne (Ne.symm x)]; exact he⟩

/-- a slot gets a new object of its own -/
theorem Rel.setOw (R : Rel g B F H μ ρ σ) (hp : ∀ p ∈ B.pins, p.1 ≠ i) (h : H a = some o) (hF : F a = none) (h0 : B.H0 a = none) (c : CellR g F a o d) (ho : ¬ Own μ σ a) : Rel g B F H (μ.set i .ow) (ρ.set i (some d)) (σ.set i (some (.ref a))) where
  toBx := R.toBx
  lr := by simpa using R.lr
  lm := by simpa using R.lm
  vars := fun j e q => by
    by_cases x : j = i
    · subst x
      have hl : j < ρ.length := by have := (List.getElem?_eq_some_iff.mp q).1; simpa using this
      rw [List.getElem?_set_self hl] at q
      cases q
      refine ⟨.ref a, by rw [List.getElem?_set_self (by rw [← R.lr]; exact hl)], ?_⟩
      rw [md_set_eq (by rw [R.lm, ← R.lr]; exact hl)]
      exact ⟨a, o, rfl, h, c, hF, .inr h0⟩
    · rw [List.getElem?_set_ne (Ne.symm x)] at q
      obtain ⟨u, h1, h2⟩ := R.vars j e q
      exact ⟨u, by rw [List.getElem?_set_ne (Ne.symm x)]; exact h1, by rw [md_set_ne x]; exact h2⟩
  sep := fun j k b n hj hk sj sk => by
    have other : ∀ j, j ≠ i → md (μ.set i .ow) j = .ow → (σ.set i (some (V.ref a)))[j]? = some (some (.ref b)) → md μ j = .ow ∧ σ[j]? = some (some (.ref b)) := fun j x hj sj => by
      rw [md_set_ne x] at hj
      rw [List.getElem?_set_ne (Ne.symm x)] at sj
      exact ⟨hj, sj⟩
    have self : ∀ j, j = i → (σ.set i (some (V.ref a)))[j]? = some (some (.ref b)) → b = a := fun j x sj => by
      subst x
      have hl : j < σ.length := by have := (List.getElem?_eq_some_iff.mp sj).1; simpa using this
      rw [List.getElem?_set_self hl] at sj
      cases sj; rfl
    by_cases xj : j = i
    · obtain rfl := self j xj sj
      by_cases xk : k = i
      · exact n (xj.trans xk.symm)
      · exact ho ⟨k, other k xk hk sk⟩
    · by_cases xk : k = i
      · obtain rfl := self k xk sk
        exact ho ⟨j, other j xj hj sj⟩
      · obtain ⟨hj, sj⟩ := other j xj hj sj
        obtain ⟨hk, sk⟩ := other k xk hk sk
        exact R.sep j k b n hj hk sj sk
  pin := fun p hpm => by rw [List.getElem?_set_ne (Ne.symm (hp p hpm))]; exact R.pin p hpm
  there := fun j hj => by
    by_cases x : j = i
    · subst x
      have hl : j < μ.length := by
        by_cases hl : j < μ.length
        · exact hl
        · unfold md at hj; rw [List.getElem?_eq_none (by simpa using hl)] at hj; cases hj
      exact ⟨d, by rw [List.getElem?_set_self (by rw [R.lr, ← R.lm]; exact hl)]⟩
    · rw [md_set_ne x] at hj
      obtain ⟨e, he⟩ := R.there j hj
      exact ⟨e, by rw [List.getElem?_set_ne (Ne.symm x)]; exact he⟩

/-- an owned object is changed -/
theorem Rel.mut (R : Rel g B F H μ ρ σ) {d' : D} {o' : HO} (hm : md μ i = .ow) (hr : ρ[i]? = some (some d)) (hs : σ[i]? = some (some (.ref a))) (c : CellR g F a o' d') :
    Rel g B F (upd H a o') μ (ρ.set i (some d')) σ := by
  obtain ⟨a', o, hs', hH, _, hF, h0⟩ := R.own_there hm hr
  rw [hs] at hs'; cases hs'
  refine ⟨⟨R.sub.updR hF, R.ext, fun b u e n => ?_, R.old, fun b e => ?_⟩, by simpa using R.lr, R.lm, fun j e q => ?_, R.sep, R.pin, fun j hj => ?_⟩
  · have x : b ≠ a := fun x => by
      subst x
      rcases h0 with h0 | h0
      · exact n h0
      · rw [h0] at e; cases e
    rw [upd_ne x]; exact R.keep b u e n
  · by_cases x : b = a
    · subst x; exact ⟨o', upd_same⟩
    · rw [upd_ne x]; exact R.aa b e
  · by_cases x : j = i
    · subst x
      rw [List.getElem?_set_self (by rw [R.lr]; exact R.sig hr)] at q
      cases q
      refine ⟨_, hs, ?_⟩
      rw [hm]
      exact ⟨a, o', rfl, upd_same, c, hF, h0⟩
    · rw [List.getElem?_set_ne (Ne.symm x)] at q
      obtain ⟨u, h1, h2⟩ := R.vars j e q
      refine ⟨u, h1, ?_⟩
      cases hj : md μ j with
      | fz => rw [hj] at h2; exact h2
      | an => rw [hj] at h2; exact h2
      | ow =>
        rw [hj] at h2
        obtain ⟨b, w, rfl, y1, y2, y3, y4⟩ := h2
        have n : b ≠ a := fun n => by subst n; exact R.sep j i b x hj hm h1 hs
        exact ⟨b, w, rfl, by rw [upd_ne n]; exact y1, y2, y3, y4⟩
  · by_cases x : j = i
    · subst x; exact ⟨d', by rw [List.getElem?_set_self (by rw [R.lr]; exact R.sig hr)]⟩
    · obtain ⟨e, he⟩ := R.there j hj
      exact ⟨e, by rw [List.getElem?_set_ne (Ne.symm x)]; exact he⟩
theorem Rel.mutStep (R : Rel g B F H μ ρ σ) {o' : HO} (hm : md μ i = .ow) (hs : σ[i]? = some (some (.ref a))) : Step μ σ F H F (upd H a o') :=
  ⟨Le.refl _, fun b u e n => by
    have x : b ≠ a := fun x => by subst x; exact n ⟨i, hm, hs⟩
    rw [upd_ne x]; exact e, fun _ _ _ => rfl, fun b u e => by
    by_cases x : b = a
    · subst x; exact ⟨o', upd_same⟩
    · exact ⟨u, by rw [upd_ne x]; exact e⟩⟩

/-- an owned object is shared from now on -/
theorem Rel.freeze (R : Rel g B F H μ ρ σ) (hm : md μ i = .ow) : ∃ F', Le F F' ∧ Rel g B F' H (μ.set i .fz) ρ σ := by
  have il : i < μ.length := by
    by_cases x : i < μ.length
    · exact x
    · unfold md at hm; rw [List.getElem?_eq_none (by omega)] at hm; cases hm
  have sub : ∀ j, md (μ.set i .fz) j = .ow → j ≠ i ∧ md μ j = .ow := fun j hj => by
    by_cases x : j = i
    · subst x; rw [md_set_eq il] at hj; cases hj
    · exact ⟨x, by rw [md_set_ne x] at hj; exact hj⟩
  have sep : ∀ i_1 j a, i_1 ≠ j → md (μ.set i .fz) i_1 = .ow → md (μ.set i .fz) j = .ow → σ[i_1]? = some (some (.ref a)) → σ[j]? = some (some (.ref a)) → False := fun j k a n hj hk sj sk =>
    R.sep j k a n (sub j hj).2 (sub k hk).2 sj sk
  rcases hr : ρ[i]? with _ | (_ | d)
  · have := List.getElem?_eq_none_iff.mp hr
    rw [R.lr, ← R.lm] at this; omega
  · refine ⟨F, Le.refl _, R.toBx, R.lr, by simpa using R.lm, fun j e q => ?_, sep, R.pin, fun j hj => R.there j (sub j hj).2⟩
    have x : j ≠ i := fun x => by subst x; rw [hr] at q; cases q
    obtain ⟨u, h1, h2⟩ := R.vars j e q
    exact ⟨u, h1, by rw [md_set_ne x]; exact h2⟩
  · obtain ⟨a, o, hs, hH, c, hF, h0⟩ := R.own_there hm hr
    have le : Le F (upd F a o) := Le.upd hF
    refine ⟨upd F a o, le, ⟨fun b u e => ?_, R.ext.trans le, R.keep, fun b u e n => ?_, R.aa⟩, R.lr, by simpa using R.lm, fun j e q => ?_, sep, R.pin, fun j hj => R.there j (sub j hj).2⟩
    · by_cases x : b = a
      · subst x; rw [upd_same] at e; cases e; exact hH
      · rw [upd_ne x] at e; exact R.sub b u e
    · have x : b ≠ a := fun x => by
        subst x
        rcases h0 with h0 | h0
        · exact n h0
        · rw [h0] at e; cases e
      rw [upd_ne x]; exact R.old b u e n
    · obtain ⟨u, h1, h2⟩ := R.vars j e q
      refine ⟨u, h1, ?_⟩
      by_cases x : j = i
      · subst x
        rw [md_set_eq il]
        rw [hr] at q; cases q
        rw [hs] at h1; cases h1
        exact (c.mono le).is upd_same
      · rw [md_set_ne x]
        cases hj : md μ j with
        | fz => rw [hj] at h2; exact Is.mono le h2
        | an =>
          rw [hj] at h2
          rcases h2 with h2 | ⟨b, w, rfl, y1, y2, y3⟩
          · exact .inl (Is.mono le h2)
          · exact .inr ⟨b, w, rfl, y1, y2, y3.mono le⟩
        | ow =>
          rw [hj] at h2
          obtain ⟨b, w, rfl, y1, y2, y3, y4⟩ := h2
          have n : b ≠ a := fun n => by subst n; exact R.sep j i b x hj hm h1 hs
          exact ⟨b, w, rfl, y1, y2.mono le, by rw [upd_ne n]; exact y3, y4⟩

theorem Step.trans {F2 H2 : Hp} (s : Step μ σ F H F' H') (t : Step μ σ F' H' F2 H2) : Step μ σ F H F2 H2 :=
  ⟨s.f.trans t.f, fun a u e n => t.h a u (s.h a u e n) n, fun a u e => by
    obtain ⟨u', e'⟩ := s.t a u e
    rw [t.n a u' e', s.n a u e], fun a u e => by
    obtain ⟨u', e'⟩ := s.t a u e
    exact t.t a u' e'⟩
end
end PyD

set_option Elab.async false
set_option linter.all false
set_option maxRecDepth 100000
namespace PyD
open PySem L2

structure Ctx (ι : Type) where
  X : ι → Cx
  g : G
  N : List Str
  vs : List (Option Str)
  as : List (Option Str)
  W : WX
  lv : Nat
  io : List Nat
  sc : Scope

structure Ctx.Ok {ι : Type} (C : Ctx ι) : Prop where
  hP : ∀ j, (C.X j).prog = C.g.P
  hw : ∀ j, (C.X j).w = C.g.w
  hK : ∀ j, (C.X j).K = C.g.K
  hm : ∀ j, (C.X j).mg = C.g.mg
  hb : ∀ j, (C.X j).base = C.g.base
  calm : ∀ j, (C.X j).calm = true
  hN : ∀ j, (C.X j).N = C.N
  nd : C.N.Nodup
  vis : ∀ (j : ι) (i : Nat) (x : Str), C.vs[i]? = some (some x) → C.N[i]? = some x ∧ Vis (C.X j).env.scope x ∧ (x == ("__debug__" : Str)) = false ∧ (x == ("__classdict__" : Str)) = false
  asg : ∀ (j : ι) (i : Nat) (x : Str), C.as[i]? = some (some x) → C.N[i]? = some x ∧ Loc (C.X j).env.scope x ∧ ((C.X j).fn x = true ∨ (C.X j).env.scope.names.lookup x = some .local)
  tk : ∀ j, Takes (C.X j) C.W
  po : ∀ j, PassesOwn (model (C.X j).prog (C.X j).w) (C.X j).A (C.X j).env (C.X j).xe
  room : ∀ j, Room C.lv (C.X j).A
  hsc : ∀ j, (C.X j).env.scope = C.sc

/-- an exception in the heap -/
def XAt (g : G) (F H : Hp) (x : Exc) (cls : Value) (d : Option Addr) : Prop :=
  cls = .ref (g.cA x.c) ∧ ((x.fs = [] ∧ d = none) ∨ ∃ dx fs, d = some dx ∧ H dx = some (.xd fs) ∧ ∀ f e, x.fs.lookup f = some e → ∃ v, fs.lookup f = some v ∧ Is g F v e)

section
variable {ι : Type} {C : Ctx ι} {α β : Type} {B : Base} {F H : Hp} {μ : List Md} {σ : St} {ρ : Env}

/-- what is to be shown of an outcome -/
def Post (C : Ctx ι) (B : Base) (F H : Hp) (μ : List Md) (σ : St) (o : Out (α × Env)) (K : α → Env → Hp → Hp → Prop) : Prop := match o with
  | .ok (a, ρ') => ∀ F' H', Rel C.g B F' H' μ ρ' σ → Step μ σ F H F' H' → K a ρ' F' H'
  | .exc x => ∀ cls d F' H', Bx B F' H' → XAt C.g F' H' x cls d → C.W cls d σ H'
  | .bad => False

theorem Post.bnd {o : Out (α × Env)} {f : α × Env → Out (β × Env)} {K : β → Env → Hp → Hp → Prop} (h : Post C B F H μ σ (o.bind f) K) :
    Post C B F H μ σ o (fun a ρ1 F1 H1 => Post C B F1 H1 μ σ (f (a, ρ1)) K) := by
  match o, h with
  | .ok (a, ρ1), h =>
    intro F1 H1 R1 S1
    show Post C B F1 H1 μ σ (f (a, ρ1)) K
    have h : Post C B F H μ σ (f (a, ρ1)) K := h
    match f (a, ρ1), h with
    | .ok (b, ρ2), h => exact fun F2 H2 R2 S2 => h F2 H2 R2 (S1.trans S2)
    | .exc x, h => exact h
    | .bad, h => exact h
  | .exc x, h => exact h
  | .bad, h => exact h
theorem Post.imp {o : Out (α × Env)} {K K' : α → Env → Hp → Hp → Prop} (h : Post C B F H μ σ o K) (k : ∀ a ρ' F' H', Rel C.g B F' H' μ ρ' σ → Step μ σ F H F' H' → K a ρ' F' H' → K' a ρ' F' H') : Post C B F H μ σ o K' := by
  match o, h with
  | .ok (a, ρ1), h => exact fun F1 H1 R1 S1 => k _ _ _ _ R1 S1 (h F1 H1 R1 S1)
  | .exc x, h => exact h
  | .bad, h => exact h
theorem Post.now {a : α} {K : α → Env → Hp → Hp → Prop} (h : Post C B F H μ σ (.ok (a, ρ)) K) (R : Rel C.g B F H μ ρ σ) : K a ρ F H := h F H R Step.refl
/-- an outcome that leans on nothing but data -/
theorem Post.pure {o : Out α} {K : α → Env → Hp → Hp → Prop} (h : Post C B F H μ σ (o.bind fun a => .ok (a, ρ)) K) (ne : ∀ x, o ≠ .exc x) : ∃ a, o = .ok a ∧ Post C B F H μ σ (.ok (a, ρ)) K := by
  match o, h with
  | .ok a, h => exact ⟨a, rfl, h⟩
  | .exc x, h => exact absurd rfl (ne x)
  | .bad, h => exact h.elim

/-! ### judgements -/
/-- an operand: data, or a name -/
inductive Arg where
  | val (d : D)
  | var (i : Nat)
def ArgR (g : G) (F : Hp) (σ : St) (v : V) : Arg → Prop
  | .val d => Is g F v d
  | .var i => σ[i]? = some (some v)
def get : Arg → Env → Out D
  | .val d, _ => .ok d
  | .var i, ρ => match ρ[i]? with
    | some (some d) => .ok d
    | _ => .bad
/-- what may be read as d -/
def RdR (g : G) (F H : Hp) (v : V) (d : D) : Prop := Is g F v d ∨ ∃ a o, v = .ref a ∧ H a = some o ∧ CellR g F a o d
theorem ArgR.mono {g : G} {F F' : Hp} (h : Le F F') {v : V} {a : Arg} (r : ArgR g F σ v a) : ArgR g F' σ v a := by
  cases a with
  | val d => exact Is.mono h r
  | var i => exact r
theorem Rel.read {g : G} {v : V} {i : Nat} {d : D} (R : Rel g B F H μ ρ σ) (hr : ρ[i]? = some (some d)) (hs : σ[i]? = some (some v)) : RdR g F H v d := by
  obtain ⟨u, h1, h2⟩ := R.vars i d hr
  rw [hs] at h1; cases h1
  cases hm : md μ i with
  | fz => rw [hm] at h2; exact .inl h2
  | ow =>
    rw [hm] at h2
    obtain ⟨a, o, rfl, h, c, _⟩ := h2
    exact .inr ⟨a, o, rfl, h, c⟩
  | an =>
    rw [hm] at h2
    rcases h2 with h2 | ⟨a, o, rfl, h, n, c⟩
    · exact .inl h2
    · exact .inr ⟨a, o, rfl, R.keep a o h n, c⟩
theorem Rel.arg {g : G} {v : V} {a : Arg} {d : D} (R : Rel g B F H μ ρ σ) (r : ArgR g F σ v a) (e : get a ρ = .ok d) : RdR g F H v d := by
  cases a with
  | val d' => cases e; exact .inl r
  | var i =>
    unfold get at e
    rcases hr : ρ[i]? with _ | (_ | d')
    · simp only [hr] at e; cases e
    · simp only [hr] at e; cases e
    · simp only [hr] at e; cases e; exact R.read hr r
theorem get_ne (a : Arg) (ρ : Env) (x : Exc) : get a ρ ≠ .exc x := by
  cases a with
  | val d => intro h; cases h
  | var i =>
    rcases h : ρ[i]? with _ | (_ | d) <;> simp [get, h]

/-- an expression whose value is shared data -/
def DE (C : Ctx ι) (μ : List Md) (e : Expr) (m : Env → Out (D × Env)) : Prop :=
  ∃ t : TE, (∀ j, PE (C.X j) e t) ∧ ∀ B F H ρ σ Q, Rel C.g B F H μ ρ σ → Post C B F H μ σ (m ρ) (fun d _ F' H' => ∀ v, Is C.g F' v d → Q v H') → t σ H Q
/-- .. an operand -/
def DO (C : Ctx ι) (μ : List Md) (e : Expr) (m : Env → Out (Arg × Env)) : Prop :=
  ∃ t : TE, (∀ j, PE (C.X j) e t) ∧ ∀ B F H ρ σ Q, Rel C.g B F H μ ρ σ → Post C B F H μ σ (m ρ) (fun a _ F' H' => ∀ v, ArgR C.g F' σ v a → Q v H') → t σ H Q
/-- .. a test -/
def DT (C : Ctx ι) (μ : List Md) (e : Expr) (m : Env → Out (Bool × Env)) : Prop :=
  ∃ t : TT, (∀ j, PT (C.X j) e t) ∧ ∀ B F H ρ σ Q, Rel C.g B F H μ ρ σ → Post C B F H μ σ (m ρ) (fun b _ F' H' => Q b H') → t σ H Q
def DW (C : Ctx ι) (μ : List Md) (e : Expr) (m : Env → Out (Bool × Env)) : Prop :=
  ∃ t : TT, (∀ j, PW (C.X j) e t) ∧ ∀ B F H ρ σ Q, Rel C.g B F H μ ρ σ → Post C B F H μ σ (m ρ) (fun b _ F' H' => Q b H') → t σ H Q
/-- .. a new list (dict) that nothing else holds -/
def DN (C : Ctx ι) (μ : List Md) (e : Expr) (m : Env → Out (D × Env)) : Prop :=
  ∃ t : TE, (∀ j, PE (C.X j) e t) ∧ ∀ B F H ρ σ Q, Rel C.g B F H μ ρ σ → Post C B F H μ σ (m ρ) (fun d _ F' H' => ∀ a o, H' a = some o → H a = none → F' a = none → CellR C.g F' a o d → Q (.ref a) H') → t σ H Q
def ArgsR (g : G) (F : Hp) (σ : St) : List V → List Arg → Prop
  | [], [] => True
  | v :: vs, a :: as => ArgR g F σ v a ∧ ArgsR g F σ vs as
  | _, _ => False
/-- argument lists: shared data; operands -/
def DA (C : Ctx ι) (μ : List Md) (es : List Expr) (m : Env → Out (List D × Env)) : Prop :=
  ∃ t : TA, (∀ j, PA (C.X j) es t) ∧ ∀ B F H ρ σ Q, Rel C.g B F H μ ρ σ → Post C B F H μ σ (m ρ) (fun ds _ F' H' => ∀ vs, IsAll C.g F' vs ds → Q vs H') → t σ H Q
def DOs (C : Ctx ι) (μ : List Md) (es : List Expr) (m : Env → Out (List Arg × Env)) : Prop :=
  ∃ t : TA, (∀ j, PA (C.X j) es t) ∧ ∀ B F H ρ σ Q, Rel C.g B F H μ ρ σ → Post C B F H μ σ (m ρ) (fun as _ F' H' => ∀ vs, ArgsR C.g F' σ vs as → Q vs H') → t σ H Q

/-! ### the mirror's words -/
namespace M
def var (i : Nat) : Env → Out (D × Env) := fun ρ => match ρ[i]? with
  | some (some d) => .ok (d, ρ)
  | _ => .bad
def ovar (i : Nat) : Env → Out (Arg × Env) := fun ρ => match ρ[i]? with
  | some (some _) => .ok (.var i, ρ)
  | _ => .bad
def oval (m : Env → Out (D × Env)) : Env → Out (Arg × Env) := fun ρ => (m ρ).bind fun p => .ok (.val p.1, p.2)
def cst (d : D) : Env → Out (D × Env) := fun ρ => .ok (d, ρ)
def op1 (f : D → Out α) (a : Env → Out (Arg × Env)) : Env → Out (α × Env) := fun ρ => (a ρ).bind fun p => (get p.1 p.2).bind fun x => (f x).bind fun d => .ok (d, p.2)
def op2 (f : D → D → Out α) (a b : Env → Out (Arg × Env)) : Env → Out (α × Env) := fun ρ => (a ρ).bind fun p => (b p.2).bind fun q =>
  (get p.1 q.2).bind fun x => (get q.1 q.2).bind fun y => (f x y).bind fun d => .ok (d, q.2)
def bool (m : Env → Out (D × Env)) : Env → Out (Bool × Env) := fun ρ => (m ρ).bind fun p => match p.1 with
  | .bl b => .ok (b, p.2)
  | _ => .bad
def and (a b : Env → Out (Bool × Env)) : Env → Out (Bool × Env) := fun ρ => (a ρ).bind fun p => if p.1 = true then b p.2 else .ok (false, p.2)
def or (a b : Env → Out (Bool × Env)) : Env → Out (Bool × Env) := fun ρ => (a ρ).bind fun p => if p.1 = true then .ok (true, p.2) else b p.2
def not (a : Env → Out (Bool × Env)) : Env → Out (Bool × Env) := fun ρ => (a ρ).bind fun p => .ok (!p.1, p.2)
def andV (a b : Env → Out (D × Env)) : Env → Out (D × Env) := fun ρ => (a ρ).bind fun p => match p.1 with
  | .bl true => b p.2
  | .bl false => .ok (.bl false, p.2)
  | _ => .bad
def orV (a b : Env → Out (D × Env)) : Env → Out (D × Env) := fun ρ => (a ρ).bind fun p => match p.1 with
  | .bl true => .ok (.bl true, p.2)
  | .bl false => b p.2
  | _ => .bad
def notV (a : Env → Out (D × Env)) : Env → Out (D × Env) := fun ρ => (a ρ).bind fun p => match p.1 with
  | .bl b => .ok (.bl (!b), p.2)
  | _ => .bad
def ite (c : Env → Out (Bool × Env)) (a b : Env → Out (D × Env)) : Env → Out (D × Env) := fun ρ => (c ρ).bind fun p => if p.1 = true then a p.2 else b p.2
def nil : Env → Out (List α × Env) := fun ρ => .ok ([], ρ)
def cons (a : Env → Out (α × Env)) (b : Env → Out (List α × Env)) : Env → Out (List α × Env) := fun ρ => (a ρ).bind fun p => (b p.2).bind fun q => .ok (p.1 :: q.1, q.2)
def map (f : α → Out β) (a : Env → Out (α × Env)) : Env → Out (β × Env) := fun ρ => (a ρ).bind fun p => (f p.1).bind fun d => .ok (d, p.2)
end M

/-! ### names, constants -/
variable {μ : List Md} {e a b c : Expr} {pos : Pos} {x : Str}
theorem de_var (ok : C.Ok) (i : Nat) (hx : C.vs[i]? = some (some x)) (hm : md μ i = .fz) : DE C μ (.Name x pos) (M.var i) := by
  refine ⟨tVar i, fun j => ?_, fun B F H ρ σ Q R h => ?_⟩
  · obtain ⟨h1, h2, h3, h4⟩ := ok.vis j i x hx
    exact pe_var (by rw [ok.hN j]; exact h1) h2 h3 h4
  · unfold M.var at h
    rcases hr : ρ[i]? with _ | (_ | d)
    · simp only [hr] at h; exact h.elim
    · simp only [hr] at h; exact h.elim
    · simp only [hr] at h
      obtain ⟨v, h1, h2⟩ := R.vars i d hr
      rw [hm] at h2
      exact ⟨v, h1, h.now R v h2⟩
theorem do_var (ok : C.Ok) (i : Nat) (hx : C.vs[i]? = some (some x)) : DO C μ (.Name x pos) (M.ovar i) := by
  refine ⟨tVar i, fun j => ?_, fun B F H ρ σ Q R h => ?_⟩
  · obtain ⟨h1, h2, h3, h4⟩ := ok.vis j i x hx
    exact pe_var (by rw [ok.hN j]; exact h1) h2 h3 h4
  · unfold M.ovar at h
    rcases hr : ρ[i]? with _ | (_ | d)
    · simp only [hr] at h; exact h.elim
    · simp only [hr] at h; exact h.elim
    · simp only [hr] at h
      obtain ⟨v, h1, h2⟩ := R.vars i d hr
      exact ⟨v, h1, h.now R v h1⟩
theorem do_val {m : Env → Out (D × Env)} (h : DE C μ e m) : DO C μ e (M.oval m) := by
  obtain ⟨t, p, s⟩ := h
  refine ⟨t, p, fun B F H ρ σ Q R h => s B F H ρ σ Q R ?_⟩
  exact (Post.bnd h).imp fun d ρ' F' H' R' S' k v hv => k.now R' v hv
theorem de_int {i : Int} {k} : DE C μ (.Constant (.int i) k pos) (M.cst (.int i)) := ⟨_, fun _ => pe_int, fun B F H ρ σ Q R h => h.now R _ (.int i)⟩
theorem de_bl {i : Bool} {k} : DE C μ (.Constant (.bool i) k pos) (M.cst (.bl i)) := ⟨_, fun _ => pe_bl, fun B F H ρ σ Q R h => h.now R _ (.bl i)⟩
theorem de_non {k} : DE C μ (.Constant .none k pos) (M.cst .non) := ⟨_, fun _ => pe_non, fun B F H ρ σ Q R h => h.now R _ .non⟩
theorem de_str {i : Str} {k} : DE C μ (.Constant (.str i) k pos) (M.cst (.str i)) := ⟨_, fun _ => pe_str, fun B F H ρ σ Q R h => h.now R _ (.str i)⟩
/-- a module's constant -/
theorem de_glob (ok : C.Ok) {u : Value} {v : V} {d : D} (hg : ∀ j, Gl (C.X j) x) (hm : C.g.mg x = some u) (r : RelV v u) (hd : ∀ F, Is C.g F v d) (hdb : (x == ("__debug__" : Str)) = false := by decide) : DE C μ (.Name x pos) (M.cst d) :=
  ⟨tC v, fun j => pe_glob (hg j) (by rw [ok.hm j]; exact hm) r hdb, fun B F H ρ σ Q R h => h.now R _ (hd F)⟩

/-! ### operators -/
/-- an operator's reading by its function -/
def BinS (C : Ctx ι) (r : R2) (f : D → D → Out D) : Prop := ∀ B F H μ ρ σ x y dx dy Q, Rel C.g B F H μ ρ σ → RdR C.g F H x dx → RdR C.g F H y dy →
  Post C B F H μ σ ((f dx dy).bind fun d => .ok (d, ρ)) (fun d _ F' H' => ∀ v, Is C.g F' v d → Q v H') → r x y H Q
theorem binS_core {r : R2} {f : D → D → Out D} (hs : BinS C r f) {oa ob : Env → Out (Arg × Env)} {ta tb : TE}
    (sa : ∀ B F H ρ σ Q, Rel C.g B F H μ ρ σ → Post C B F H μ σ (oa ρ) (fun a _ F' H' => ∀ v, ArgR C.g F' σ v a → Q v H') → ta σ H Q)
    (sb : ∀ B F H ρ σ Q, Rel C.g B F H μ ρ σ → Post C B F H μ σ (ob ρ) (fun a _ F' H' => ∀ v, ArgR C.g F' σ v a → Q v H') → tb σ H Q)
    {B : Base} {F H : Hp} {ρ : Env} {σ : St} {Q : VK} (R : Rel C.g B F H μ ρ σ) (h : Post C B F H μ σ (M.op2 f oa ob ρ) (fun d _ F' H' => ∀ v, Is C.g F' v d → Q v H')) : tOp r ta tb σ H Q := by
  refine sa B F H ρ σ _ R ((Post.bnd h).imp fun x ρ1 F1 H1 R1 S1 k1 v hv => ?_)
  refine sb B F1 H1 ρ1 σ _ R1 ((Post.bnd k1).imp fun y ρ2 F2 H2 R2 S2 k2 u hu => ?_)
  have hv2 : ArgR C.g F2 σ v x := hv.mono S2.f
  match ex : get x ρ2, k2 with
  | .exc z, _ => exact absurd ex (get_ne _ _ _)
  | .bad, k2 => exact k2.elim
  | .ok dx, k2 =>
    replace k2 : Post C B F2 H2 μ σ ((get y ρ2).bind fun y => (f dx y).bind fun d => .ok (d, ρ2)) (fun d _ F' H' => ∀ v, Is C.g F' v d → Q v H') := k2
    match ey : get y ρ2, k2 with
    | .exc z, _ => exact absurd ey (get_ne _ _ _)
    | .bad, k2 => exact k2.elim
    | .ok dy, k2 => exact hs B F2 H2 μ ρ2 σ v u dx dy Q R2 (R2.arg hv2 ex) (R2.arg hu ey) k2
theorem de_bin {op : Operator} {r : R2} {f : D → D → Out D} (ho : ∀ j, OpR (C.X j) (binaryOp op) r) (hs : BinS C r f) {oa ob : Env → Out (Arg × Env)} (ha : DO C μ a oa) (hb : DO C μ b ob) : DE C μ (.BinOp a op b pos) (M.op2 f oa ob) := by
  obtain ⟨ta, pa, sa⟩ := ha
  obtain ⟨tb, pb, sb⟩ := hb
  exact ⟨_, fun j => pe_op (ho j) (pa j) (pb j), fun B F H ρ σ Q R h => binS_core hs sa sb R h⟩
theorem de_cmp {op : CmpOp} {r : R2} {f : D → D → Out D} (ho : ∀ j, OpR (C.X j) (compareOp op) r) (hs : BinS C r f) {oa ob : Env → Out (Arg × Env)} (ha : DO C μ a oa) (hb : DO C μ b ob) (hm : behindInMarks op b = false) : DE C μ (.Compare a [op] [b] pos) (M.op2 f oa ob) := by
  obtain ⟨ta, pa, sa⟩ := ha
  obtain ⟨tb, pb, sb⟩ := hb
  exact ⟨_, fun j => pe_cmpR (ho j) (pa j) (pb j) hm, fun B F H ρ σ Q R h => binS_core hs sa sb R h⟩
theorem dt_cmp {op : CmpOp} {r : R2} {f : D → D → Out D} (ho : ∀ j, OpR (C.X j) (compareOp op) r) (hs : BinS C r f) {oa ob : Env → Out (Arg × Env)} (ha : DO C μ a oa) (hb : DO C μ b ob) (hm : behindInMarks op b = false) : DT C μ (.Compare a [op] [b] pos) (M.bool (M.op2 f oa ob)) := by
  obtain ⟨ta, pa, sa⟩ := ha
  obtain ⟨tb, pb, sb⟩ := hb
  refine ⟨_, fun j => pt_cmpR (ho j) (pa j) (pb j) hm, fun B F H ρ σ Q R h => binS_core hs sa sb R ((Post.bnd h).imp fun d ρ1 F1 H1 R1 S1 k v hv => ?_)⟩
  match d, hv, k with
  | .bl b, .bl _, k => exact ⟨b, rfl, k.now R1⟩
  | .non, _, k => exact k.elim
  | .int _, _, k => exact k.elim
  | .str _, _, k => exact k.elim
  | .tup _, _, k => exact k.elim
  | .lst _, _, k => exact k.elim
  | .scr _, _, k => exact k.elim
  | .obj _ _ _, _, k => exact k.elim
  | .dic _ _, _, k => exact k.elim
  | .set _, _, k => exact k.elim
/-- a value that is a bool, as a test -/
theorem dt_val {m : Env → Out (D × Env)} (he : ∀ (j : ι) (whole : Sem Value), isTrue e (C.X j).env whole = (do let v ← whole; standAt e.pos; holding [v] (truthy v))) (h : DE C μ e m) : DT C μ e (M.bool m) := by
  obtain ⟨t, p, s⟩ := h
  refine ⟨_, fun j => pt_val (p j) (he j), fun B F H ρ σ Q R h => s B F H ρ σ _ R ((Post.bnd h).imp fun d ρ1 F1 H1 R1 S1 k v hv => ?_)⟩
  match d, hv, k with
  | .bl b, .bl _, k => exact ⟨b, rfl, k.now R1⟩
  | .non, _, k => exact k.elim
  | .int _, _, k => exact k.elim
  | .str _, _, k => exact k.elim
  | .tup _, _, k => exact k.elim
  | .lst _, _, k => exact k.elim
  | .scr _, _, k => exact k.elim
  | .obj _ _ _, _, k => exact k.elim
  | .dic _ _, _, k => exact k.elim
  | .set _, _, k => exact k.elim
theorem dt_not {m : Env → Out (Bool × Env)} (h : DT C μ a m) : DT C μ (.UnaryOp .Not a pos) (M.not m) := by
  obtain ⟨t, p, s⟩ := h
  exact ⟨_, fun j => pt_not (p j), fun B F H ρ σ Q R h => s B F H ρ σ _ R ((Post.bnd h).imp fun d ρ1 F1 H1 R1 S1 k => k.now R1)⟩
theorem dt_w {m : Env → Out (Bool × Env)} (h : DW C μ e m) : DT C μ e m := by
  obtain ⟨t, p, s⟩ := h
  exact ⟨t, fun j => (p j).pt, s⟩
theorem dw_and1 {m : Env → Out (Bool × Env)} (h : DT C μ a m) : DW C μ (.BoolOp .And [a] pos) m := by
  obtain ⟨t, p, s⟩ := h
  exact ⟨t, fun j => pw_and1 (p j), s⟩
theorem dw_or1 {m : Env → Out (Bool × Env)} (h : DT C μ a m) : DW C μ (.BoolOp .Or [a] pos) m := by
  obtain ⟨t, p, s⟩ := h
  exact ⟨t, fun j => pw_or1 (p j), s⟩
theorem dw_and {m m' : Env → Out (Bool × Env)} {rest : List Expr} (ha : DT C μ a m) (hb : DW C μ (.BoolOp .And (b :: rest) pos) m') : DW C μ (.BoolOp .And (a :: b :: rest) pos) (M.and m m') := by
  obtain ⟨ta, pa, sa⟩ := ha
  obtain ⟨tb, pb, sb⟩ := hb
  refine ⟨_, fun j => pw_and (pa j) (pb j), fun B F H ρ σ Q R h => sa B F H ρ σ _ R ((Post.bnd h).imp fun d ρ1 F1 H1 R1 S1 k => ?_)⟩
  cases d with
  | true => exact sb B F1 H1 ρ1 σ _ R1 k
  | false => exact k.now R1
theorem dw_or {m m' : Env → Out (Bool × Env)} {rest : List Expr} (ha : DT C μ a m) (hb : DW C μ (.BoolOp .Or (b :: rest) pos) m') : DW C μ (.BoolOp .Or (a :: b :: rest) pos) (M.or m m') := by
  obtain ⟨ta, pa, sa⟩ := ha
  obtain ⟨tb, pb, sb⟩ := hb
  refine ⟨_, fun j => pw_or (pa j) (pb j), fun B F H ρ σ Q R h => sa B F H ρ σ _ R ((Post.bnd h).imp fun d ρ1 F1 H1 R1 S1 k => ?_)⟩
  cases d with
  | true => exact k.now R1
  | false => exact sb B F1 H1 ρ1 σ _ R1 k
/-- and, or, not as values (bools) -/
theorem de_one {op} {m : Env → Out (D × Env)} (h : DE C μ a m) : DE C μ (.BoolOp op [a] pos) m := by
  obtain ⟨t, p, s⟩ := h
  exact ⟨t, fun j => pe_one (p j), s⟩
theorem de_and {m m' : Env → Out (D × Env)} {rest : List Expr} (ha : DE C μ a m) (hb : DE C μ (.BoolOp .And (b :: rest) pos) m') : DE C μ (.BoolOp .And (a :: b :: rest) pos) (M.andV m m') := by
  obtain ⟨ta, pa, sa⟩ := ha
  obtain ⟨tb, pb, sb⟩ := hb
  refine ⟨_, fun j => pe_and (pa j) (pb j), fun B F H ρ σ Q R h => sa B F H ρ σ _ R ((Post.bnd h).imp fun d ρ1 F1 H1 R1 S1 k v hv => ?_)⟩
  match d, hv, k with
  | .bl true, .bl _, k => exact ⟨true, rfl, by rw [if_pos rfl]; exact sb B F1 H1 ρ1 σ _ R1 k⟩
  | .bl false, .bl _, k => exact ⟨false, rfl, by rw [if_neg Bool.false_ne_true]; exact k.now R1 _ (.bl false)⟩
  | .non, _, k => exact k.elim
  | .int _, _, k => exact k.elim
  | .str _, _, k => exact k.elim
  | .tup _, _, k => exact k.elim
  | .lst _, _, k => exact k.elim
  | .scr _, _, k => exact k.elim
  | .obj _ _ _, _, k => exact k.elim
  | .dic _ _, _, k => exact k.elim
  | .set _, _, k => exact k.elim
theorem de_or {m m' : Env → Out (D × Env)} {rest : List Expr} (ha : DE C μ a m) (hb : DE C μ (.BoolOp .Or (b :: rest) pos) m') : DE C μ (.BoolOp .Or (a :: b :: rest) pos) (M.orV m m') := by
  obtain ⟨ta, pa, sa⟩ := ha
  obtain ⟨tb, pb, sb⟩ := hb
  refine ⟨_, fun j => pe_or (pa j) (pb j), fun B F H ρ σ Q R h => sa B F H ρ σ _ R ((Post.bnd h).imp fun d ρ1 F1 H1 R1 S1 k v hv => ?_)⟩
  match d, hv, k with
  | .bl true, .bl _, k => exact ⟨true, rfl, by rw [if_pos rfl]; exact k.now R1 _ (.bl true)⟩
  | .bl false, .bl _, k => exact ⟨false, rfl, by rw [if_neg Bool.false_ne_true]; exact sb B F1 H1 ρ1 σ _ R1 k⟩
  | .non, _, k => exact k.elim
  | .int _, _, k => exact k.elim
  | .str _, _, k => exact k.elim
  | .tup _, _, k => exact k.elim
  | .lst _, _, k => exact k.elim
  | .scr _, _, k => exact k.elim
  | .obj _ _ _, _, k => exact k.elim
  | .dic _ _, _, k => exact k.elim
  | .set _, _, k => exact k.elim
theorem de_not {m : Env → Out (D × Env)} (h : DE C μ a m) : DE C μ (.UnaryOp .Not a pos) (M.notV m) := by
  obtain ⟨t, p, s⟩ := h
  refine ⟨_, fun j => pe_not (p j), fun B F H ρ σ Q R h => s B F H ρ σ _ R ((Post.bnd h).imp fun d ρ1 F1 H1 R1 S1 k v hv => ?_)⟩
  match d, hv, k with
  | .bl b, .bl _, k => exact ⟨b, rfl, k.now R1 _ (.bl _)⟩
  | .non, _, k => exact k.elim
  | .int _, _, k => exact k.elim
  | .str _, _, k => exact k.elim
  | .tup _, _, k => exact k.elim
  | .lst _, _, k => exact k.elim
  | .scr _, _, k => exact k.elim
  | .obj _ _ _, _, k => exact k.elim
  | .dic _ _, _, k => exact k.elim
  | .set _, _, k => exact k.elim
theorem de_if {mc : Env → Out (Bool × Env)} {m m' : Env → Out (D × Env)} (hc : DT C μ c mc) (ha : DE C μ a m) (hb : DE C μ b m') : DE C μ (.IfExp c a b pos) (M.ite mc m m') := by
  obtain ⟨tc, pc, sc⟩ := hc
  obtain ⟨ta, pa, sa⟩ := ha
  obtain ⟨tb, pb, sb⟩ := hb
  refine ⟨_, fun j => pe_ifExp (pc j) (pa j) (pb j), fun B F H ρ σ Q R h => sc B F H ρ σ _ R ((Post.bnd h).imp fun d ρ1 F1 H1 R1 S1 k => ?_)⟩
  cases d with
  | true => exact sa B F1 H1 ρ1 σ _ R1 k
  | false => exact sb B F1 H1 ρ1 σ _ R1 k
theorem dn_if {mc : Env → Out (Bool × Env)} {m m' : Env → Out (D × Env)} (hc : DT C μ c mc) (ha : DN C μ a m) (hb : DN C μ b m') : DN C μ (.IfExp c a b pos) (M.ite mc m m') := by
  obtain ⟨tc, pc, sc⟩ := hc
  obtain ⟨ta, pa, sa⟩ := ha
  obtain ⟨tb, pb, sb⟩ := hb
  refine ⟨_, fun j => pe_ifExp (pc j) (pa j) (pb j), fun B F H ρ σ Q R h => sc B F H ρ σ _ R ((Post.bnd h).imp fun d ρ1 F1 H1 R1 S1 k => ?_)⟩
  have q : ∀ a, H1 a = none → H a = none := fun a ha => by
    cases e : H a with
    | none => rfl
    | some o => obtain ⟨o', e'⟩ := S1.t a o e; rw [ha] at e'; cases e'
  cases d with
  | true => exact sa B F1 H1 ρ1 σ _ R1 (k.imp fun d ρ2 F2 H2 R2 S2 k a o h1 h2 h3 h4 => k a o h1 (q a h2) h3 h4)
  | false => exact sb B F1 H1 ρ1 σ _ R1 (k.imp fun d ρ2 F2 H2 R2 S2 k a o h1 h2 h3 h4 => k a o h1 (q a h2) h3 h4)
end
end PyD

set_option Elab.async false
set_option linter.all false
set_option maxRecDepth 100000
namespace PyD
open PySem L2 L2X

section
variable {g : G} {F H : Hp} {v : V}
theorem RdR.int {i : Int} (h : RdR g F H v (.int i)) : v = .int i := by
  rcases h with h | ⟨a, o, rfl, e, c⟩
  · cases h; rfl
  · cases c
theorem RdR.bl {i : Bool} (h : RdR g F H v (.bl i)) : v = .bl i := by
  rcases h with h | ⟨a, o, rfl, e, c⟩
  · cases h; rfl
  · cases c
theorem RdR.str {i : Str} (h : RdR g F H v (.str i)) : v = .str i := by
  rcases h with h | ⟨a, o, rfl, e, c⟩
  · cases h; rfl
  · cases c
theorem RdR.non (h : RdR g F H v .non) : v = .non := by
  rcases h with h | ⟨a, o, rfl, e, c⟩
  · cases h; rfl
  · cases c
theorem RdR.lst {ds : List D} (sub : Le F H) (h : RdR g F H v (.lst ds)) : ∃ a vs, v = .ref a ∧ H a = some (.lst vs) ∧ IsAll g F vs ds := by
  rcases h with h | ⟨a, o, rfl, e, c⟩
  · cases h with
    | lst h t => exact ⟨_, _, rfl, sub _ _ h, t⟩
  · cases c with
    | lst t => exact ⟨_, _, rfl, e, t⟩
theorem RdR.tup {ds : List D} (sub : Le F H) (h : RdR g F H v (.tup ds)) : ∃ a vs, v = .ref a ∧ SqT g.K H a vs ∧ IsAll g F vs ds := by
  rcases h with h | ⟨a, o, rfl, e, c⟩
  · cases h with
    | tup h t => exact ⟨_, _, rfl, sub.sqT h.sq, t⟩
  · cases c
theorem RdR.tupF {ds : List D} (h : RdR g F H v (.tup ds)) : Is g F v (.tup ds) := by
  rcases h with h | ⟨a, o, rfl, e, c⟩
  · exact h
  · cases c
theorem RdR.scr {ns : List Int} (sub : Le F H) (h : RdR g F H v (.scr ns)) : ∃ a, v = .ref a ∧ SqL g.K H a (ns.map V.int) := by
  rcases h with h | ⟨a, o, rfl, e, c⟩
  · cases h with
    | scr h => exact ⟨_, rfl, sub.sqL h⟩
  · cases c
/-- items of a list or tuple -/
def items : D → Out (List D)
  | .lst ds => .ok ds
  | .tup ds => .ok ds
  | _ => .bad
theorem RdR.items {d : D} {ds : List D} (sub : Le F H) (h : RdR g F H v d) (e : items d = .ok ds) : ∃ a vs, v = .ref a ∧ (SqL g.K H a vs ∨ SqT g.K H a vs) ∧ IsAll g F vs ds := by
  cases d with
  | lst xs => cases e; obtain ⟨a, vs, rfl, x, t⟩ := h.lst sub; exact ⟨a, vs, rfl, .inl (SqL.of x), t⟩
  | tup xs => cases e; obtain ⟨a, vs, rfl, x, t⟩ := h.tup sub; exact ⟨a, vs, rfl, .inr x, t⟩
  | _ => cases e
theorem items_ne (d : D) (x : Exc) : items d ≠ .exc x := by cases d <;> (intro h; cases h)
end

/-! ### deep equality -/
mutual
def toPy : D → PyData
  | .non => .none
  | .bl b => .bool b
  | .int i => .int i
  | .str s => .str s
  | .tup ds => .tuple (toPys ds)
  | .lst ds => .list (toPys ds)
  | .scr _ => .dict []
  | .obj _ _ _ => .dict []
  | .dic _ _ => .dict []
  | .set _ => .dict []
def toPys : List D → List PyData
  | [] => []
  | d :: ds => toPy d :: toPys ds
end
def shp (d : D) : Bool := SeqAt.shaped (toPy d)
theorem shp_not {d : D} (h : toPy d = .dict []) : shp d = false := by unfold shp; rw [h]; rfl
mutual
def lay : D → Bool
  | .tup ds => lays ds
  | .lst ds => lays ds
  | .scr _ => false
  | .obj _ _ _ => false
  | .dic _ _ => false
  | .set _ => false
  | _ => true
def lays : List D → Bool
  | [] => true
  | d :: ds => lay d && lays ds
end
mutual
theorem lay_of : ∀ d : D, (toPy d).canLay0 = true → lay d = true
  | .non, _ => by unfold lay; rfl
  | .bl _, _ => by unfold lay; rfl
  | .int _, _ => by unfold lay; rfl
  | .str _, _ => by unfold lay; rfl
  | .tup ds, h => by unfold lay; unfold toPy at h; unfold PyData.canLay0 at h; exact lays_of ds h
  | .lst ds, h => by unfold lay; unfold toPy at h; unfold PyData.canLay0 at h; exact lays_of ds h
  | .scr _, h => by unfold toPy at h; simp [PyData.canLay0] at h
  | .obj _ _ _, h => by unfold toPy at h; simp [PyData.canLay0] at h
  | .dic _ _, h => by unfold toPy at h; simp [PyData.canLay0] at h
  | .set _, h => by unfold toPy at h; simp [PyData.canLay0] at h
theorem lays_of : ∀ ds : List D, PyData.canLayAll0 (toPys ds) = true → lays ds = true
  | [], _ => by unfold lays; rfl
  | d :: ds, h => by
    unfold lays
    unfold toPys at h
    unfold PyData.canLayAll0 at h
    rw [Bool.and_eq_true] at h ⊢
    exact ⟨lay_of d h.1, lays_of ds h.2⟩
end
theorem lay_shp {d : D} (h : shp d = true) : lay d = true := lay_of d (SeqAt.canLay_of_shaped h)
mutual
theorem Is.dp {g : G} {F H : Hp} (sub : Le F H) : ∀ {v : V} {d : D}, Is g F v d → lay d = true → Dp g.K H v (toPy d)
  | _, _, .non, _ => by unfold toPy; exact .non
  | _, _, .bl b, _ => by unfold toPy; exact .bl b
  | _, _, .int b, _ => by unfold toPy; exact .int b
  | _, _, .str b, _ => by unfold toPy; exact .str b
  | _, _, .tup r t, h => by unfold toPy; unfold lay at h; exact .tup (sub.sqT r.sq) (IsAll.dp sub t h)
  | _, _, .lst r t, h => by unfold toPy; unfold lay at h; exact .lst (SqL.of (sub _ _ r)) (IsAll.dp sub t h)
  | _, _, .scr r, h => by unfold lay at h; cases h
  | _, _, .obj _ _ _ _, h => by unfold lay at h; cases h
  | _, _, .dic _ _ _ _, h => by unfold lay at h; cases h
  | _, _, .set _, h => by unfold lay at h; cases h
theorem IsAll.dp {g : G} {F H : Hp} (sub : Le F H) : ∀ {vs : List V} {ds : List D}, IsAll g F vs ds → lays ds = true → DpAll g.K H vs (toPys ds)
  | _, _, .nil, _ => by unfold toPys; exact .nil
  | _, _, .cons r t, h => by
    unfold lays at h
    rw [Bool.and_eq_true] at h
    unfold toPys
    exact .cons (Is.dp sub r h.1) (IsAll.dp sub t h.2)
end
theorem RdR.dp {g : G} {F H : Hp} (sub : Le F H) {v : V} {d : D} (h : RdR g F H v d) (l : lay d = true) : Dp g.K H v (toPy d) := by
  rcases h with h | ⟨a, o, rfl, e, c⟩
  · exact h.dp sub l
  · cases c with
    | lst t => unfold toPy; unfold lay at l; exact .lst (SqL.of e) (t.dp sub l)
    | dic _ _ _ => unfold lay at l; cases l

def eqD (a b : D) : Bool := PyData.eqv (toPy a) (toPy b)
def eqO (a b : D) : Out D := if shp a = true ∧ shp b = true then .ok (.bl (eqD a b)) else .bad
def neO (a b : D) : Out D := if shp a = true ∧ shp b = true then .ok (.bl (!eqD a b)) else .bad
def inO (a b : D) : Out D := match b with
  | .lst ds => if shp a = true ∧ shp (.lst ds) = true then .ok (.bl (ds.any fun z => eqD z a)) else .bad
  | .tup ds => if shp a = true ∧ shp (.tup ds) = true then .ok (.bl (ds.any fun z => eqD z a)) else .bad
  | _ => .bad
def notInO (a b : D) : Out D := (inO a b).bind fun d => match d with
  | .bl k => .ok (.bl (!k))
  | _ => .bad

section
variable {ι : Type} {C : Ctx ι} {B : Base} {F H : Hp} {μ : List Md} {σ : St} {ρ : Env}
theorem Post.sc {d : D} {v : V} {Q : VK} (h : Post C B F H μ σ ((Out.ok d : Out D).bind fun d => .ok (d, ρ)) (fun d _ F' H' => ∀ v, Is C.g F' v d → Q v H')) (R : Rel C.g B F H μ ρ σ) (hv : Is C.g F v d) : Q v H := h.now R v hv
theorem Post.tup {ds : List D} {vs : List V} {Q : VK} (h : Post C B F H μ σ (.ok (.tup ds, ρ)) (fun d _ F' H' => ∀ v, Is C.g F' v d → Q v H')) (R : Rel C.g B F H μ ρ σ) (t : IsAll C.g F vs ds) : NewT vs H Q := fun p o hp ho =>
  h _ _ (R.new hp _) (Step.new (R.toBx.fresh hp).1 hp) _ (.tup (.inl ⟨o, upd_same, ho⟩) (t.mono (Le.upd (R.toBx.fresh hp).1)))
theorem Post.lst {ds : List D} {vs : List V} {p : Addr} {Q : VK} (h : Post C B F H μ σ (.ok (.lst ds, ρ)) (fun d _ F' H' => ∀ v, Is C.g F' v d → Q v H')) (R : Rel C.g B F H μ ρ σ) (hp : H p = none) (t : IsAll C.g F vs ds) : Q (.ref p) (upd H p (.lst vs)) :=
  h _ _ (R.new hp _) (Step.new (R.toBx.fresh hp).1 hp) _ (.lst upd_same (t.mono (Le.upd (R.toBx.fresh hp).1)))
theorem Post.lstN {ds : List D} {vs : List V} {p : Addr} {Q : VK} (h : Post C B F H μ σ (.ok (.lst ds, ρ)) (fun d _ F' H' => ∀ a o, H' a = some o → H a = none → F' a = none → CellR C.g F' a o d → Q (.ref a) H')) (R : Rel C.g B F H μ ρ σ) (hp : H p = none) (t : IsAll C.g F vs ds) : Q (.ref p) (upd H p (.lst vs)) :=
  h _ _ (R.newH hp _) (Step.newH hp) p _ upd_same hp (R.toBx.fresh hp).1 (.lst t)

/-! ### numbers -/
def mulOk (a b : Int) : Bool := (decide (-(2 ^ 64) < a) && decide (a < 2 ^ 64)) || (decide (-(2 ^ 64) < b) && decide (b < 2 ^ 64))
theorem mulOk_of {a b : Int} (h : mulOk a b = true) : CMul a b := by
  unfold mulOk at h
  unfold CMul
  simpa [Bool.or_eq_true, Bool.and_eq_true, decide_eq_true_eq] using h
def subO : D → D → Out D
  | .int a, .int b => .ok (.int (a - b))
  | _, _ => .bad
def mulO : D → D → Out D
  | .int a, .int b => if mulOk a b = true then .ok (.int (a * b)) else .bad
  | .lst ds, .int k => if -(2 ^ 63) ≤ k ∧ k < 2 ^ 63 ∧ ds.length * k.toNat ≤ 100000 then .ok (.lst (List.replicate k.toNat ds).flatten) else .bad
  | _, _ => .bad
def fdivO : D → D → Out D
  | .int a, .int b => if b ≠ 0 ∧ b.natAbs < 1073741824 then .ok (.int (a.fdiv b)) else .bad
  | _, _ => .bad
def modO : D → D → Out D
  | .int a, .int b => if b ≠ 0 then .ok (.int (a.fmod b)) else .bad
  | _, _ => .bad
def powO : D → D → Out D
  | .int a, .int b => if 0 ≤ b ∧ b ≤ 1000000 ∧ a.natAbs < 2 ^ 64 then .ok (.int (a ^ b.toNat)) else .bad
  | _, _ => .bad
def addO : D → D → Out D
  | .int a, .int b => .ok (.int (a + b))
  | .lst a, .lst b => if a.length + b.length ≤ 100000 then .ok (.lst (a ++ b)) else .bad
  | .tup a, .tup b => if a.length + b.length ≤ 100000 then .ok (.tup (a ++ b)) else .bad
  | _, _ => .bad
def ltO : D → D → Out D
  | .int a, .int b => .ok (.bl (decide (a < b)))
  | _, _ => .bad
def leO : D → D → Out D
  | .int a, .int b => .ok (.bl (decide (a ≤ b)))
  | _, _ => .bad
def gtO : D → D → Out D
  | .int a, .int b => .ok (.bl (decide (b < a)))
  | _, _ => .bad
def geO : D → D → Out D
  | .int a, .int b => .ok (.bl (decide (b ≤ a)))
  | _, _ => .bad
theorem size100 {n : Nat} (h : n ≤ 100000) : n ≤ sizeLine := Nat.le_trans h (by decide)

theorem s_sub : BinS C (rI0 fun i j => .int (i - j)) subO := by
  intro B F H μ ρ σ x y dx dy Q R rx ry h
  match dx, dy, rx, ry, h with
  | .int a, .int b, rx, ry, h => rw [rx.int, ry.int]; exact ⟨a, b, rfl, rfl, h.sc R (.int _)⟩
theorem s_lt : BinS C (rI0 fun i j => .bl (decide (i < j))) ltO := by
  intro B F H μ ρ σ x y dx dy Q R rx ry h
  match dx, dy, rx, ry, h with
  | .int a, .int b, rx, ry, h => rw [rx.int, ry.int]; exact ⟨a, b, rfl, rfl, h.sc R (.bl _)⟩
theorem s_le : BinS C (rI0 fun i j => .bl (decide (i ≤ j))) leO := by
  intro B F H μ ρ σ x y dx dy Q R rx ry h
  match dx, dy, rx, ry, h with
  | .int a, .int b, rx, ry, h => rw [rx.int, ry.int]; exact ⟨a, b, rfl, rfl, h.sc R (.bl _)⟩
theorem s_gt : BinS C (rI0 fun i j => .bl (decide (j < i))) gtO := by
  intro B F H μ ρ σ x y dx dy Q R rx ry h
  match dx, dy, rx, ry, h with
  | .int a, .int b, rx, ry, h => rw [rx.int, ry.int]; exact ⟨a, b, rfl, rfl, h.sc R (.bl _)⟩
theorem s_ge : BinS C (rI0 fun i j => .bl (decide (j ≤ i))) geO := by
  intro B F H μ ρ σ x y dx dy Q R rx ry h
  match dx, dy, rx, ry, h with
  | .int a, .int b, rx, ry, h => rw [rx.int, ry.int]; exact ⟨a, b, rfl, rfl, h.sc R (.bl _)⟩
theorem s_fdiv : BinS C (rI CDivN fun i j => .int (i.fdiv j)) fdivO := by
  intro B F H μ ρ σ x y dx dy Q R rx ry h
  match dx, dy, rx, ry, h with
  | .int a, .int b, rx, ry, h =>
    unfold fdivO at h
    by_cases q : b ≠ 0 ∧ b.natAbs < 1073741824
    · simp only [if_pos q] at h; rw [rx.int, ry.int]; exact ⟨a, b, rfl, rfl, q, h.sc R (.int _)⟩
    · simp only [if_neg q] at h; exact h.elim
theorem s_mod : BinS C (rI (fun _ j => j ≠ 0) fun i j => .int (i.fmod j)) modO := by
  intro B F H μ ρ σ x y dx dy Q R rx ry h
  match dx, dy, rx, ry, h with
  | .int a, .int b, rx, ry, h =>
    unfold modO at h
    by_cases q : b ≠ 0
    · simp only [if_pos q] at h; rw [rx.int, ry.int]; exact ⟨a, b, rfl, rfl, q, h.sc R (.int _)⟩
    · simp only [if_neg q] at h; exact h.elim
theorem s_pow : BinS C (rI CPow fun i j => .int (i ^ j.toNat)) powO := by
  intro B F H μ ρ σ x y dx dy Q R rx ry h
  match dx, dy, rx, ry, h with
  | .int a, .int b, rx, ry, h =>
    unfold powO at h
    by_cases q : 0 ≤ b ∧ b ≤ 1000000 ∧ a.natAbs < 2 ^ 64
    · simp only [if_pos q] at h; rw [rx.int, ry.int]; exact ⟨a, b, rfl, rfl, q, h.sc R (.int _)⟩
    · simp only [if_neg q] at h; exact h.elim
def rMulD : R2 := fun x y H Q => rI CMul (fun i j => .int (i * j)) x y H Q ∨ rRep x y H Q
theorem o_mul (j : ι) : OpR (C.X j) (binaryOp .Mult) rMulD := OpR.or op_mul op_rep
theorem IsAll.rep {g : G} {F : Hp} {vs : List V} {ds : List D} (t : IsAll g F vs ds) : ∀ k : Nat, IsAll g F (List.replicate k vs).flatten (List.replicate k ds).flatten
  | 0 => .nil
  | k + 1 => by rw [List.replicate_succ, List.replicate_succ, List.flatten_cons, List.flatten_cons]; exact t.append (IsAll.rep t k)
theorem s_mul : BinS C rMulD mulO := by
  intro B F H μ ρ σ x y dx dy Q R rx ry h
  match dx, dy, rx, ry, h with
  | .int a, .int b, rx, ry, h =>
    unfold mulO at h
    by_cases q : mulOk a b = true
    · simp only [if_pos q] at h; rw [rx.int, ry.int]; exact .inl ⟨a, b, rfl, rfl, mulOk_of q, h.sc R (.int _)⟩
    · simp only [if_neg q] at h; exact h.elim
  | .lst ds, .int k, rx, ry, h =>
    unfold mulO at h
    by_cases q : -(2 ^ 63) ≤ k ∧ k < 2 ^ 63 ∧ ds.length * k.toNat ≤ 100000
    · simp only [if_pos q] at h
      obtain ⟨a, vs, rfl, ha, t⟩ := rx.lst R.sub
      rw [ry.int]
      exact .inr ⟨a, k, vs, rfl, rfl, ha, q.1, q.2.1, by rw [t.length]; exact size100 q.2.2, fun p hp => Post.lst h R hp (t.rep _)⟩
    · simp only [if_neg q] at h; exact h.elim
def rAddD (K : PySem.W.Frag) : R2 := fun x y H Q => rI0 (fun i j => .int (i + j)) x y H Q ∨ rCat x y H Q ∨ rCatX K x y H Q
theorem o_add (ok : C.Ok) (j : ι) : OpR (C.X j) (binaryOp .Add) (rAddD C.g.K) := by
  have h := OpR.or (X := C.X j) op_add (OpR.or op_cat op_catX)
  rw [ok.hK j] at h
  exact h
theorem IsAll.nil_iff {g : G} {F : Hp} {vs : List V} {ds : List D} (t : IsAll g F vs ds) : vs = [] ↔ ds = [] := by
  have := t.length
  constructor <;> intro e <;> subst e
  · exact List.length_eq_zero_iff.mp this.symm
  · exact List.length_eq_zero_iff.mp this
theorem s_add : BinS C (rAddD C.g.K) addO := by
  intro B F H μ ρ σ x y dx dy Q R rx ry h
  match dx, dy, rx, ry, h with
  | .int a, .int b, rx, ry, h => rw [rx.int, ry.int]; exact .inl ⟨a, b, rfl, rfl, h.sc R (.int _)⟩
  | .lst as, .lst bs, rx, ry, h =>
    unfold addO at h
    by_cases q : as.length + bs.length ≤ 100000
    · simp only [if_pos q] at h
      obtain ⟨a, vs, rfl, ha, t⟩ := rx.lst R.sub
      obtain ⟨b, ws, rfl, hb, u⟩ := ry.lst R.sub
      exact .inr (.inl ⟨a, b, vs, ws, rfl, rfl, ha, hb, by rw [t.length, u.length]; exact size100 q, fun p hp => Post.lst h R hp (t.append u)⟩)
    · simp only [if_neg q] at h; exact h.elim
  | .tup as, .tup bs, rx, ry, h =>
    unfold addO at h
    by_cases q : as.length + bs.length ≤ 100000
    · simp only [if_pos q] at h
      obtain ⟨a, vs, rfl, ha, t⟩ := rx.tup R.sub
      obtain ⟨b, ws, rfl, hb, u⟩ := ry.tup R.sub
      refine .inr (.inr ⟨a, b, vs, ws, rfl, rfl, ha, hb, by rw [t.length, u.length]; exact size100 q, fun e => ?_, fun e1 e2 => ?_, fun e1 e2 => Post.tup h R (t.append u)⟩)
      · rw [t.nil_iff] at e; subst e; exact h.sc R ry.tupF
      · rw [u.nil_iff] at e2; subst e2
        rw [List.append_nil] at h; exact h.sc R rx.tupF
    · simp only [if_neg q] at h; exact h.elim

/-! ### ==, in, is None -/
theorem o_eq (ok : C.Ok) (j : ι) : OpR (C.X j) (compareOp .Eq) (rEqD C.g.K) := by
  have h := op_eqD (X := C.X j) (ok.room j).units
  rw [ok.hK j] at h
  exact h
theorem o_ne (ok : C.Ok) (j : ι) : OpR (C.X j) (compareOp .NotEq) (rNeD C.g.K) := by
  have h := op_neD (X := C.X j) (ok.room j).units
  rw [ok.hK j] at h
  exact h
theorem s_eq : BinS C (rEqD C.g.K) eqO := by
  intro B F H μ ρ σ x y dx dy Q R rx ry h
  unfold eqO at h
  by_cases q : shp dx = true ∧ shp dy = true
  · simp only [if_pos q] at h
    exact ⟨toPy dx, toPy dy, rx.dp R.sub (lay_shp q.1), ry.dp R.sub (lay_shp q.2), q.1, q.2, h.sc R (.bl _)⟩
  · simp only [if_neg q] at h; exact h.elim
theorem s_ne : BinS C (rNeD C.g.K) neO := by
  intro B F H μ ρ σ x y dx dy Q R rx ry h
  unfold neO at h
  by_cases q : shp dx = true ∧ shp dy = true
  · simp only [if_pos q] at h
    exact ⟨toPy dx, toPy dy, rx.dp R.sub (lay_shp q.1), ry.dp R.sub (lay_shp q.2), q.1, q.2, h.sc R (.bl _)⟩
  · simp only [if_neg q] at h; exact h.elim
/-- in a tuple of data -/
def rInT (K : PySem.W.Frag) : R2 := fun x y H Q => ∃ d ds, Dp K H x d ∧ Dp K H y (.tuple ds) ∧ SeqAt.shaped d = true ∧ SeqAt.shaped (.tuple ds) = true ∧ Q (.bl (ds.any fun z => PyData.eqv z d)) H
def rNotInT (K : PySem.W.Frag) : R2 := fun x y H Q => ∃ d ds, Dp K H x d ∧ Dp K H y (.tuple ds) ∧ SeqAt.shaped d = true ∧ SeqAt.shaped (.tuple ds) = true ∧ Q (.bl (!ds.any fun z => PyData.eqv z d)) H
theorem lay_tuple {ds : List PyData} (h : SeqAt.shaped (.tuple ds) = true) : PyData.canLayAll0 ds = true ∧ PyData.depthAll ds ≤ 64 := by
  have h1 := SeqAt.canLay_of_shaped h
  have h2 := SeqAt.depth_of_shaped h
  unfold PyData.canLay0 at h1
  unfold PyData.depth at h2
  exact ⟨h1, by omega⟩
theorem op_inT {X : Cx} (hu : X.A.units + 66 < cLine) : OpR X (compareOp .In) (rInT X.K) := by
  intro pins s σ H x y v u Q I rx ry h
  obtain ⟨d, ds, hd, he, sd, se, q⟩ := h
  obtain ⟨as, r1⟩ := Dp.reads I d x v hd rx
  obtain ⟨bs, r2⟩ := Dp.reads I (.tuple ds) y u he ry
  have l := lay_tuple se
  exact SeqAt.in_tuple_reads r2 r1 l.1 (SeqAt.canLay_of_shaped sd) (by have := SeqAt.depth_of_shaped sd; have := Nat.min_le_left (PyData.depthAll ds) d.depth; omega) ⟨.bl _, H, I, rfl, q⟩
theorem op_notInT {X : Cx} (hu : X.A.units + 66 < cLine) : OpR X (compareOp .NotIn) (rNotInT X.K) := by
  intro pins s σ H x y v u Q I rx ry h
  obtain ⟨d, ds, hd, he, sd, se, q⟩ := h
  obtain ⟨as, r1⟩ := Dp.reads I d x v hd rx
  obtain ⟨bs, r2⟩ := Dp.reads I (.tuple ds) y u he ry
  have l := lay_tuple se
  exact SeqAt.notIn_tuple_reads r2 r1 l.1 (SeqAt.canLay_of_shaped sd) (by have := SeqAt.depth_of_shaped sd; have := Nat.min_le_left (PyData.depthAll ds) d.depth; omega) ⟨.bl _, H, I, rfl, q⟩
def rInA (K : PySem.W.Frag) : R2 := fun x y H Q => rInD K x y H Q ∨ rInT K x y H Q
def rNotInA (K : PySem.W.Frag) : R2 := fun x y H Q => rNotInD K x y H Q ∨ rNotInT K x y H Q
theorem units66 {k : Nat} {A : Around} (r : Room k A) : A.units + 66 < cLine := by have := r.un; omega
theorem o_in (ok : C.Ok) (j : ι) : OpR (C.X j) (compareOp .In) (rInA C.g.K) := by
  have u := units66 (ok.room j)
  have h := OpR.or (X := C.X j) (op_inD (by omega)) (op_inT u)
  rw [ok.hK j] at h
  exact h
theorem o_notIn (ok : C.Ok) (j : ι) : OpR (C.X j) (compareOp .NotIn) (rNotInA C.g.K) := by
  have u := units66 (ok.room j)
  have h := OpR.or (X := C.X j) (op_notInD (by omega)) (op_notInT u)
  rw [ok.hK j] at h
  exact h
theorem any_toPys (a : D) : ∀ ds : List D, (toPys ds).any (fun z => PyData.eqv z (toPy a)) = ds.any fun z => eqD z a
  | [] => by unfold toPys; rfl
  | d :: ds => by unfold toPys; rw [List.any_cons, List.any_cons, any_toPys a ds]; rfl
theorem s_in : BinS C (rInA C.g.K) inO := by
  intro B F H μ ρ σ x y dx dy Q R rx ry h
  match dy, ry, h with
  | .lst ds, ry, h =>
    unfold inO at h
    by_cases q : shp dx = true ∧ shp (.lst ds) = true
    · simp only [if_pos q] at h
      have hy := ry.dp R.sub (lay_shp q.2)
      have s2 := q.2
      unfold shp at s2
      unfold toPy at hy s2
      exact .inl ⟨toPy dx, toPys ds, rx.dp R.sub (lay_shp q.1), hy, q.1, s2, h.sc R (by rw [any_toPys]; exact .bl _)⟩
    · simp only [if_neg q] at h; exact h.elim
  | .tup ds, ry, h =>
    unfold inO at h
    by_cases q : shp dx = true ∧ shp (.tup ds) = true
    · simp only [if_pos q] at h
      have hy := ry.dp R.sub (lay_shp q.2)
      have s2 := q.2
      unfold shp at s2
      unfold toPy at hy s2
      exact .inr ⟨toPy dx, toPys ds, rx.dp R.sub (lay_shp q.1), hy, q.1, s2, h.sc R (by rw [any_toPys]; exact .bl _)⟩
    · simp only [if_neg q] at h; exact h.elim
theorem s_notIn : BinS C (rNotInA C.g.K) notInO := by
  intro B F H μ ρ σ x y dx dy Q R rx ry h
  match dy, ry, h with
  | .lst ds, ry, h =>
    unfold notInO inO at h
    by_cases q : shp dx = true ∧ shp (.lst ds) = true
    · simp only [if_pos q] at h
      have hy := ry.dp R.sub (lay_shp q.2)
      have s2 := q.2
      unfold shp at s2
      unfold toPy at hy s2
      exact .inl ⟨toPy dx, toPys ds, rx.dp R.sub (lay_shp q.1), hy, q.1, s2, Post.sc (d := .bl (!ds.any fun z => eqD z dx)) h R (by rw [any_toPys]; exact .bl _)⟩
    · simp only [if_neg q] at h; exact h.elim
  | .tup ds, ry, h =>
    unfold notInO inO at h
    by_cases q : shp dx = true ∧ shp (.tup ds) = true
    · simp only [if_pos q] at h
      have hy := ry.dp R.sub (lay_shp q.2)
      have s2 := q.2
      unfold shp at s2
      unfold toPy at hy s2
      exact .inr ⟨toPy dx, toPys ds, rx.dp R.sub (lay_shp q.1), hy, q.1, s2, Post.sc (d := .bl (!ds.any fun z => eqD z dx)) h R (by rw [any_toPys]; exact .bl _)⟩
    · simp only [if_neg q] at h; exact h.elim
def isNon : D → Bool
  | .non => true
  | _ => false
def isNO (a b : D) : Out D := match b with
  | .non => .ok (.bl (isNon a))
  | _ => .bad
def notNO (a b : D) : Out D := match b with
  | .non => .ok (.bl (!isNon a))
  | _ => .bad
theorem RdR.isNon {g : G} {F H : Hp} {v : V} {d : D} (h : RdR g F H v d) : decide (v = .non) = isNon d := by
  rcases h with h | ⟨a, o, rfl, e, c⟩
  · cases h <;> simp [PyD.isNon]
  · cases c <;> simp [PyD.isNon]
theorem s_isN : BinS C (fun x y H Q => y = .non ∧ Q (.bl (decide (x = .non))) H) isNO := by
  intro B F H μ ρ σ x y dx dy Q R rx ry h
  match dy, ry, h with
  | .non, ry, h => exact ⟨ry.non, h.sc R (by rw [rx.isNon]; exact .bl _)⟩
theorem s_notN : BinS C (fun x y H Q => y = .non ∧ Q (.bl (!decide (x = .non))) H) notNO := by
  intro B F H μ ρ σ x y dx dy Q R rx ry h
  match dy, ry, h with
  | .non, ry, h => exact ⟨ry.non, h.sc R (by rw [rx.isNon]; exact .bl _)⟩
end
end PyD

set_option Elab.async false
set_option linter.all false
set_option maxRecDepth 100000
namespace PyD
open PySem L2

inductive SOut where
  | nx (ρ : Env)
  | ret (d : D) (ρ : Env)
  | brk (ρ : Env)
  | cont (ρ : Env)
  | exc (x : Exc)
  | bad

/-- an outcome of an expression, then a statement's -/
@[reducible] def Out.then {α : Type} (o : Out α) (f : α → SOut) : SOut := match o with
  | .ok a => f a
  | .exc x => .exc x
  | .bad => .bad
@[simp] theorem Out.then_ok {α : Type} (a : α) (f : α → SOut) : (Out.ok a).then f = f a := rfl
@[simp] theorem Out.then_exc {α : Type} (x : Exc) (f : α → SOut) : (Out.exc x : Out α).then f = .exc x := rfl
@[simp] theorem Out.then_bad {α : Type} (f : α → SOut) : (Out.bad : Out α).then f = .bad := rfl
@[reducible] def SOut.seq (o : SOut) (f : Env → SOut) : SOut := match o with
  | .nx ρ => f ρ
  | o => o
@[simp] theorem SOut.seq_nx (ρ : Env) (f : Env → SOut) : (SOut.nx ρ).seq f = f ρ := rfl
@[simp] theorem SOut.seq_ret (d : D) (ρ : Env) (f : Env → SOut) : (SOut.ret d ρ).seq f = .ret d ρ := rfl
@[simp] theorem SOut.seq_brk (ρ : Env) (f : Env → SOut) : (SOut.brk ρ).seq f = .brk ρ := rfl
@[simp] theorem SOut.seq_cont (ρ : Env) (f : Env → SOut) : (SOut.cont ρ).seq f = .cont ρ := rfl
@[simp] theorem SOut.seq_exc (x : Exc) (f : Env → SOut) : (SOut.exc x).seq f = .exc x := rfl
@[simp] theorem SOut.seq_bad (f : Env → SOut) : (SOut.bad).seq f = .bad := rfl

/-- the result's kind: shared data, or an object of its own -/
def ResR (g : G) (B : Base) (F H : Hp) (rm : Md) (v : V) (d : D) : Prop := match rm with
  | .ow => ∃ a o, v = .ref a ∧ H a = some o ∧ F a = none ∧ B.H0 a = none ∧ CellR g F a o d
  | _ => Is g F v d

def PinsOk (B : Base) (io : List Nat) : Prop := (∀ p ∈ B.pins, p.1 ∈ io) ∧ ∀ a ∈ B.A0, ∃ p ∈ B.pins, p.2 = a
def ioOk (io : List Nat) (μ : List Md) : Bool := io.all fun i => decide (md μ i = .ow)

section
variable {ι : Type} {C : Ctx ι} {B : Base} {F H : Hp} {μ μ' μL : List Md} {σ : St} {ρ : Env} {rm : Md}

/-- what is to be shown of a statement's outcome -/
def SPost (C : Ctx ι) (B : Base) (F : Hp) (μ' μL : List Md) (rm : Md) (D : Ends) (o : SOut) : Prop := match o with
  | .nx ρ' => ∀ F' H' σ', Rel C.g B F' H' μ' ρ' σ' → Le F F' → D.nx σ' H'
  | .brk ρ' => ∀ F' H' σ', Rel C.g B F' H' μL ρ' σ' → Le F F' → D.bk σ' H'
  | .cont ρ' => ∀ F' H' σ', Rel C.g B F' H' μL ρ' σ' → Le F F' → D.ct σ' H'
  | .ret d ρ' => ∀ F' H' σ' μ'' v, Rel C.g B F' H' μ'' ρ' σ' → ioOk C.io μ'' = true → ResR C.g B F' H' rm v d → D.rt v H'
  | .exc x => ∀ cls d F' H' σ', Bx B F' H' → XAt C.g F' H' x cls d → C.W cls d σ' H'
  | .bad => False

def DS (C : Ctx ι) (rm : Md) (μL μ : List Md) (st : Stmt) (μ' : List Md) (m : Env → SOut) : Prop :=
  ∃ t : TS, (∀ j, PS (C.X j) st t) ∧ ∀ B F H ρ σ D, PinsOk B C.io → Rel C.g B F H μ ρ σ → SPost C B F μ' μL rm D (m ρ) → t D σ H
def DSs (C : Ctx ι) (rm : Md) (μL μ : List Md) (st : List Stmt) (μ' : List Md) (m : Env → SOut) : Prop :=
  ∃ t : TS, (∀ j, PSs (C.X j) st t) ∧ ∀ B F H ρ σ D, PinsOk B C.io → Rel C.g B F H μ ρ σ → SPost C B F μ' μL rm D (m ρ) → t D σ H

theorem SPost.le {F1 : Hp} {D : Ends} {o : SOut} (h : SPost C B F μ' μL rm D o) (l : Le F F1) : SPost C B F1 μ' μL rm D o := by
  cases o with
  | nx ρ' => exact fun F' H' σ' R k => h F' H' σ' R (l.trans k)
  | brk ρ' => exact fun F' H' σ' R k => h F' H' σ' R (l.trans k)
  | cont ρ' => exact fun F' H' σ' R k => h F' H' σ' R (l.trans k)
  | ret d ρ' => exact h
  | exc x => exact h
  | bad => exact h
/-- from an expression's outcome -/
theorem SPost.of {α : Type} {D : Ends} {o : Out (α × Env)} {f : α × Env → SOut} (h : SPost C B F μ' μL rm D (o.then f)) :
    Post C B F H μ σ o (fun a ρ1 F1 H1 => SPost C B F1 μ' μL rm D (f (a, ρ1))) := by
  match o, h with
  | .ok (a, ρ1), h => exact fun F1 H1 R1 S1 => SPost.le h S1.f
  | .exc x, h => exact fun cls d F' H' b k => h cls d F' H' σ b k
  | .bad, h => exact h
theorem SPost.seqs {D : Ends} {o : SOut} {f : Env → SOut} {μ1 : List Md} (h : SPost C B F μ' μL rm D (o.seq f)) (nx : St → Hp → Prop)
    (k : ∀ ρ1, o = .nx ρ1 → ∀ F' H' σ', Rel C.g B F' H' μ1 ρ1 σ' → Le F F' → nx σ' H') : SPost C B F μ1 μL rm { D with nx := nx } o := by
  cases o with
  | nx ρ' => exact k ρ' rfl
  | brk ρ' => exact h
  | cont ρ' => exact h
  | ret d ρ' => exact h
  | exc x => exact h
  | bad => exact h

namespace M
def drop (m : Env → Out (D × Env)) : Env → SOut := fun ρ => (m ρ).then fun p => .nx p.2
def asg (i : Nat) (m : Env → Out (D × Env)) : Env → SOut := fun ρ => (m ρ).then fun p => .nx (p.2.set i (some p.1))
def aug (f : D → D → Out D) (i : Nat) (m : Env → Out (D × Env)) : Env → SOut := fun ρ => match ρ[i]? with
  | some (some x) => (m ρ).then fun p => (f x p.1).then fun d => .nx (p.2.set i (some d))
  | _ => .bad
def ret (m : Env → Out (D × Env)) : Env → SOut := fun ρ => (m ρ).then fun p => .ret p.1 p.2
def retN : Env → SOut := fun ρ => .ret .non ρ
def retO (i : Nat) : Env → SOut := fun ρ => match ρ[i]? with
  | some (some d) => .ret d ρ
  | _ => .bad
def cond (c : Env → Out (Bool × Env)) (a b : Env → SOut) : Env → SOut := fun ρ => (c ρ).then fun p => if p.1 = true then a p.2 else b p.2
def seq (a b : Env → SOut) : Env → SOut := fun ρ => (a ρ).seq b
def skip : Env → SOut := fun ρ => .nx ρ
def brk : Env → SOut := fun ρ => .brk ρ
def cont : Env → SOut := fun ρ => .cont ρ
def never : Env → SOut := fun _ => .bad
/-- a loop over items -/
def each (tg : D → Env → Out Env) (body : Env → SOut) : List D → Env → SOut
  | [], ρ => .nx ρ
  | d :: ds, ρ => match tg d ρ with
    | .ok ρ1 => (match body ρ1 with
      | .nx ρ2 => each tg body ds ρ2
      | .cont ρ2 => each tg body ds ρ2
      | .brk ρ2 => .nx ρ2
      | o => o)
    | _ => .bad
def forE (it : Env → Out (List D × Env)) (tg : D → Env → Out Env) (body : Env → SOut) : Env → SOut := fun ρ => (it ρ).then fun p => each tg body p.1 p.2
def loop (c : Env → Out (Bool × Env)) (body : Env → SOut) : Nat → Env → SOut
  | 0, _ => .bad
  | n + 1, ρ => (c ρ).then fun p => if p.1 = true then (match body p.2 with
      | .nx ρ2 => loop c body n ρ2
      | .cont ρ2 => loop c body n ρ2
      | .brk ρ2 => .nx ρ2
      | o => o) else .nx p.2
end M

variable {e : Expr} {pos : Pos} {x : Str} {st : Stmt} {sts : List Stmt} {m m' : Env → SOut}

theorem Rel.same {g : G} (R : Rel g B F H μ ρ σ) : Rel g B F H μ ρ σ := R

theorem ds_drop {me : Env → Out (D × Env)} (h : DE C μ e me) (hs : ∀ j, swapsWith e none pos.line (C.X j).env = pure false := by intro _; rfl) : DS C rm μL μ (.Expr e pos) μ (M.drop me) := by
  obtain ⟨t, p, s⟩ := h
  refine ⟨_, fun j => ps_expr (p j) (hs j), fun B F H ρ σ D hp R h => s B F H ρ σ _ R ((SPost.of h).imp fun d ρ1 F1 H1 R1 S1 k v hv => k F1 H1 σ R1 (Le.refl _))⟩
theorem pins_ne {i : Nat} (hp : PinsOk B C.io) (hi : C.io.contains i = false) : ∀ p ∈ B.pins, p.1 ≠ i := fun p h e => by
  have q := hp.1 p h
  rw [e] at q
  rw [List.contains_iff_mem.mpr q] at hi; cases hi
theorem ds_asg (ok : C.Ok) {me : Env → Out (D × Env)} {pos' : Pos} (i : Nat) (hx : C.as[i]? = some (some x)) (hi : C.io.contains i = false) (h : DE C μ e me)
    (hs : ∀ j, swapsWith e (some (.Name x pos')) pos.line (C.X j).env = pure false := by intro _; rfl) : DS C rm μL μ (.Assign [.Name x pos'] e pos) (μ.set i .fz) (M.asg i me) := by
  obtain ⟨t, p, s⟩ := h
  refine ⟨_, fun j => ?_, fun B F H ρ σ D hp R h => s B F H ρ σ _ R ((SPost.of h).imp fun d ρ1 F1 H1 R1 S1 k v hv => k F1 H1 _ (R1.set (pins_ne hp hi) hv) (Le.refl _))⟩
  obtain ⟨h1, h2, h3⟩ := ok.asg j i x hx
  exact ps_set (by rw [ok.hN j]; exact ok.nd) (by rw [ok.hN j]; exact h1) h2 (p j) (hs j) h3
theorem Rel.new_notOwn {g : G} {a : Addr} (R : Rel g B F H μ ρ σ) (h : H a = none) : ¬ Own μ σ a := fun ⟨i, hm, hs⟩ => by
  obtain ⟨d, hd⟩ := R.there i hm
  obtain ⟨b, o, h1, h2, _⟩ := R.own_there hm hd
  rw [hs] at h1; cases h1
  rw [h] at h2; cases h2
theorem ds_asgN (ok : C.Ok) {me : Env → Out (D × Env)} {pos' : Pos} (i : Nat) (hx : C.as[i]? = some (some x)) (hi : C.io.contains i = false) (h : DN C μ e me)
    (hs : ∀ j, swapsWith e (some (.Name x pos')) pos.line (C.X j).env = pure false := by intro _; rfl) : DS C rm μL μ (.Assign [.Name x pos'] e pos) (μ.set i .ow) (M.asg i me) := by
  obtain ⟨t, p, s⟩ := h
  refine ⟨tAsg t (gName i), fun j => ?_, fun B F H ρ σ D hp R h => ?_⟩
  · obtain ⟨h1, h2, h3⟩ := ok.asg j i x hx
    exact ps_set (by rw [ok.hN j]; exact ok.nd) (by rw [ok.hN j]; exact h1) h2 (p j) (hs j) h3
  · refine s B F H ρ σ _ R ((SPost.of h).imp fun d ρ1 F1 H1 R1 S1 k a o ha hn hf c => k F1 H1 _ (R1.setOw (pins_ne hp hi) ha hf ?_ c (R.new_notOwn hn)) (Le.refl _))
    exact (R.toBx.fresh hn).2.1
theorem ds_ret {me : Env → Out (D × Env)} (hio : ioOk C.io μ = true) (h : DE C μ e me) : DS C .fz μL μ (.Return (some e) pos) μ' (M.ret me) := by
  obtain ⟨t, p, s⟩ := h
  exact ⟨_, fun j => ps_ret (p j), fun B F H ρ σ D hp R h => s B F H ρ σ _ R ((SPost.of h).imp fun d ρ1 F1 H1 R1 S1 k v hv => k F1 H1 σ μ v R1 hio hv)⟩
theorem ds_retN (hio : ioOk C.io μ = true) : DS C .fz μL μ (.Return none pos) μ' M.retN :=
  ⟨_, fun j => ps_retN, fun B F H ρ σ D hp R h => h F H σ μ .non R hio .non⟩
/-- a new object is handed back -/
theorem ds_retD {me : Env → Out (D × Env)} (hio : ioOk C.io μ = true) (h : DN C μ e me) : DS C .ow μL μ (.Return (some e) pos) μ' (M.ret me) := by
  obtain ⟨t, p, s⟩ := h
  exact ⟨_, fun j => ps_ret (p j), fun B F H ρ σ D hp R h => s B F H ρ σ _ R ((SPost.of h).imp fun d ρ1 F1 H1 R1 S1 k a o ha hn hf c => k F1 H1 σ μ _ R1 hio ⟨a, o, rfl, ha, hf, (R.toBx.fresh hn).2.1, c⟩)⟩
/-- a name's own object is handed back -/
theorem ds_retO (ok : C.Ok) (i : Nat) (hx : C.vs[i]? = some (some x)) (hm : md μ i = .ow) (hi : C.io.contains i = false) (hio : ioOk C.io μ = true) {pos' : Pos} : DS C .ow μL μ (.Return (some (.Name x pos')) pos) μ' (M.retO i) := by
  refine ⟨_, fun j => ps_ret (pe_var (i := i) (by rw [ok.hN j]; exact (ok.vis j i x hx).1) (ok.vis j i x hx).2.1 (ok.vis j i x hx).2.2.1 (ok.vis j i x hx).2.2.2), fun B F H ρ σ D hp R h => ?_⟩
  unfold M.retO at h
  rcases hr : ρ[i]? with _ | (_ | d)
  · simp only [hr] at h; exact h.elim
  · simp only [hr] at h; exact h.elim
  · simp only [hr] at h
    obtain ⟨a, o, h1, h2, h3, h4, h5⟩ := R.own_there hm hr
    refine ⟨.ref a, h1, h F H σ μ _ R hio ⟨a, o, rfl, h2, h4, ?_, h3⟩⟩
    rcases h5 with h5 | h5
    · obtain ⟨p, hpm, rfl⟩ := hp.2 a h5
      have hmp : md μ p.1 = .ow := of_decide_eq_true (List.all_eq_true.mp hio p.1 (hp.1 p hpm))
      exact (R.sep i p.1 p.2 (fun q => pins_ne hp hi p hpm q.symm) hm hmp h1 (R.pin p hpm)).elim
    · exact h5
theorem ds_pass : DS C rm μL μ (.Pass pos) μ M.skip := ⟨_, fun _ => ps_pass, fun B F H ρ σ D hp R h => h F H σ R (Le.refl _)⟩
theorem ds_break : DS C rm μ μ (.Break pos) μ' M.brk := ⟨_, fun _ => ps_break, fun B F H ρ σ D hp R h => h F H σ R (Le.refl _)⟩
theorem ds_continue : DS C rm μ μ (.Continue pos) μ' M.cont := ⟨_, fun _ => ps_continue, fun B F H ρ σ D hp R h => h F H σ R (Le.refl _)⟩
theorem ds_never : DS C rm μL μ st μ' M.never := ⟨_, fun _ => ps_never, fun B F H ρ σ D hp R h => h.elim⟩
theorem dss_never : DSs C rm μL μ sts μ' M.never := ⟨_, fun _ => pss_never, fun B F H ρ σ D hp R h => h.elim⟩
theorem ds_if {c : Expr} {a b : List Stmt} {mc : Env → Out (Bool × Env)} (hc : DT C μ c mc) (ha : DSs C rm μL μ a μ' m) (hb : DSs C rm μL μ b μ' m') : DS C rm μL μ (.If c a b pos) μ' (M.cond mc m m') := by
  obtain ⟨tc, pc, sc⟩ := hc
  obtain ⟨ta, pa, sa⟩ := ha
  obtain ⟨tb, pb, sb⟩ := hb
  refine ⟨_, fun j => ps_if (pc j) (pa j) (pb j), fun B F H ρ σ D hp R h => sc B F H ρ σ _ R ((SPost.of h).imp fun k ρ1 F1 H1 R1 S1 q => ?_)⟩
  cases k with
  | true => exact sa B F1 H1 ρ1 σ D hp R1 q
  | false => exact sb B F1 H1 ρ1 σ D hp R1 q
theorem dss_nil : DSs C rm μL μ [] μ M.skip := ⟨_, fun _ => pss_nil, fun B F H ρ σ D hp R h => h F H σ R (Le.refl _)⟩
theorem dss_one (h : DS C rm μL μ st μ' m) : DSs C rm μL μ [st] μ' m := by
  obtain ⟨t, p, s⟩ := h
  exact ⟨_, fun j => pss_one (p j), s⟩
theorem dss_cons {μ1 : List Md} (h : DS C rm μL μ st μ1 m) (k : DSs C rm μL μ1 sts μ' m') : DSs C rm μL μ (st :: sts) μ' (M.seq m m') := by
  obtain ⟨t, p, s⟩ := h
  obtain ⟨u, q, r⟩ := k
  refine ⟨_, fun j => pss_cons (p j) (q j), fun B F H ρ σ D hp R h => ?_⟩
  refine s B F H ρ σ { D with nx := u D } hp R (SPost.seqs h _ fun ρ1 e F' H' σ' R' l => ?_)
  have h : SPost C B F μ' μL rm D ((m ρ).seq m') := h
  rw [e] at h
  exact r B F' H' ρ1 σ' D hp R' (SPost.le h l)
/-- shared from here on -/
theorem ds_fz (i : Nat) (hm : md μ i = .ow) (h : DS C rm μL (μ.set i .fz) st μ' m) : DS C rm μL μ st μ' m := by
  obtain ⟨t, p, s⟩ := h
  refine ⟨t, p, fun B F H ρ σ D hp R h => ?_⟩
  obtain ⟨F', l, R'⟩ := R.freeze hm
  exact s B F' H ρ σ D hp R' (SPost.le h l)
theorem dss_fz (i : Nat) (hm : md μ i = .ow) (h : DSs C rm μL (μ.set i .fz) sts μ' m) : DSs C rm μL μ sts μ' m := by
  obtain ⟨t, p, s⟩ := h
  refine ⟨t, p, fun B F H ρ σ D hp R h => ?_⟩
  obtain ⟨F', l, R'⟩ := R.freeze hm
  exact s B F' H ρ σ D hp R' (SPost.le h l)

/-! ### targets -/
def PinsW (B : Base) (io : List Nat) : Prop := ∀ p ∈ B.pins, p.1 ∈ io
def Off (tl : List Nat) (σ σ' : St) : Prop := ∀ j, j ∉ tl → σ'[j]? = σ[j]?
def DG (C : Ctx ι) (μ : List Md) (tg : Expr) (μ' : List Md) (f : D → Env → Out Env) (tl : List Nat) : Prop :=
  ∃ t : TG, (∀ j, PG (C.X j) tg t) ∧ ∀ B F H ρ σ v d (Q : St → Hp → Prop), PinsW B C.io → Rel C.g B F H μ ρ σ → Is C.g F v d → ∀ ρ', f d ρ = .ok ρ' → (∀ σ', Rel C.g B F H μ' ρ' σ' → Off tl σ σ' → Q σ' H) → t v σ H Q
def DGs (C : Ctx ι) (μ : List Md) (tgs : List Expr) (μ' : List Md) (f : List D → Env → Out Env) (tl : List Nat) : Prop :=
  ∃ t : TGs, (∀ j, PGs (C.X j) tgs t) ∧ ∀ B F H ρ σ vs ds (Q : St → Hp → Prop), PinsW B C.io → Rel C.g B F H μ ρ σ → IsAll C.g F vs ds → ∀ ρ', f ds ρ = .ok ρ' → (∀ σ', Rel C.g B F H μ' ρ' σ' → Off tl σ σ' → Q σ' H) → t vs σ H Q
namespace M
def gn (i : Nat) : D → Env → Out Env := fun d ρ => .ok (ρ.set i (some d))
def gnil : List D → Env → Out Env := fun ds ρ => match ds with
  | [] => .ok ρ
  | _ => .bad
def gcons (f : D → Env → Out Env) (h : List D → Env → Out Env) : List D → Env → Out Env := fun ds ρ => match ds with
  | d :: r => (f d ρ).bind fun ρ' => h r ρ'
  | _ => .bad
def gt (n : Nat) (h : List D → Env → Out Env) : D → Env → Out Env := fun d ρ => match d with
  | .tup ds => if ds.length = n then h ds ρ else .bad
  | _ => .bad
end M
theorem pins_neW {i : Nat} (hp : PinsW B C.io) (hi : C.io.contains i = false) : ∀ p ∈ B.pins, p.1 ≠ i := fun p h e => by
  have q := hp p h
  rw [e] at q
  rw [List.contains_iff_mem.mpr q] at hi; cases hi
theorem dg_name (ok : C.Ok) (i : Nat) (hx : C.as[i]? = some (some x)) (hi : C.io.contains i = false) : DG C μ (.Name x pos) (μ.set i .fz) (M.gn i) [i] := by
  refine ⟨gName i, fun j => ?_, fun B F H ρ σ v d Q hp R hv ρ' e k => ?_⟩
  · obtain ⟨h1, h2, h3⟩ := ok.asg j i x hx
    exact pg_name (i := i) (by rw [ok.hN j]; exact ok.nd) (by rw [ok.hN j]; exact h1) h2 h3
  · cases e
    exact k _ (R.set (pins_neW hp hi) hv) fun j hj => by
      rw [List.mem_singleton] at hj
      rw [List.getElem?_set_ne (Ne.symm hj)]
theorem dgs_nil : DGs C μ [] μ M.gnil [] := by
  refine ⟨_, fun _ => pgs_nil, fun B F H ρ σ vs ds Q hp R hv ρ' e k => ?_⟩
  cases hv with
  | nil => cases e; exact ⟨rfl, k _ R fun _ _ => rfl⟩
  | cons a b => cases e
theorem dgs_cons {a : Expr} {as : List Expr} {μ1 : List Md} {f : D → Env → Out Env} {h : List D → Env → Out Env} {tl tl' : List Nat} (h1 : DG C μ a μ1 f tl) (h2 : DGs C μ1 as μ' h tl')
    (hs : ∀ j, (assignEach (a :: as) (C.X j).env).map (·.2) = assign a (C.X j).env :: (assignEach as (C.X j).env).map (·.2) := by intro _; rfl) : DGs C μ (a :: as) μ' (M.gcons f h) (tl ++ tl') := by
  obtain ⟨t, p, s⟩ := h1
  obtain ⟨u, q, r⟩ := h2
  refine ⟨_, fun j => pgs_cons (p j) (q j) (hs j), fun B F H ρ σ vs ds Q hp R hv ρ' e k => ?_⟩
  cases hv with
  | nil => cases e
  | cons a b =>
    rename_i v vs' d ds'
    have e : (f d ρ).bind (fun ρ' => h ds' ρ') = .ok ρ' := e
    cases ef : f d ρ with
    | ok ρ1 =>
      rw [ef] at e
      refine ⟨v, vs', rfl, s B F H ρ σ v d _ hp R a ρ1 ef fun σ' R' o1 => r B F H ρ1 σ' vs' ds' Q hp R' b ρ' e fun σ2 R2 o2 => k σ2 R2 fun j hj => ?_⟩
      rw [List.mem_append, not_or] at hj
      rw [o2 j hj.2, o1 j hj.1]
    | exc x => rw [ef] at e; cases e
    | bad => rw [ef] at e; cases e
theorem dg_tup (ok : C.Ok) {es : List Expr} {k : Nat} {h : List D → Env → Out Env} {n : Nat} {tl : List Nat} (hg : DGs C μ es μ' h tl)
    (hn : ∀ j, (assignEach es (C.X j).env).length = n := by intro _; rfl) (hst : ∀ j, (assignEach es (C.X j).env).findIdx? (·.1) = none := by intro _; rfl) : DG C μ (.Tuple es k pos) μ' (M.gt n h) tl := by
  obtain ⟨t, p, s⟩ := hg
  refine ⟨gTup C.g.K n t, fun j => by rw [← ok.hK j]; exact pg_tup (ok.calm j) (p j) (hn j) (hst j), fun B F H ρ σ v d Q hp R hv ρ' e q => ?_⟩
  cases hv with
  | tup ha ht =>
    rename_i a vs ds
    have e : (if ds.length = n then h ds ρ else .bad) = .ok ρ' := e
    by_cases hl : ds.length = n
    · rw [if_pos hl] at e
      exact ⟨a, vs, rfl, R.sub.sqT ha.sq, by rw [ht.length]; exact hl, s B F H ρ σ vs ds Q hp R ht ρ' e q⟩
    · rw [if_neg hl] at e; cases e
  | _ => cases e
def M.unpack (me : Env → Out (D × Env)) (f : D → Env → Out Env) : Env → SOut := fun ρ => (me ρ).then fun p => match f p.1 p.2 with
  | .ok ρ' => .nx ρ'
  | _ => .bad
/-- a, b = e -/
theorem ds_unpack {tg : Expr} {me : Env → Out (D × Env)} {f : D → Env → Out Env} {tl : List Nat} (h : DE C μ e me) (hg : DG C μ tg μ' f tl)
    (hs : ∀ j, swapsWithSole [tg] e pos.line (C.X j).env = pure false := by intro _; rfl) (hw : ∀ j, swappedStores [tg] e (C.X j).env = pure none := by intro _; rfl)
    (h1 : ∀ j, (assignEach [tg] (C.X j).env).map (·.2) = [assign tg (C.X j).env] := by intro _; rfl) :
    DS C rm μL μ (.Assign [tg] e pos) μ' (M.unpack me f) := by
  obtain ⟨t, p, s⟩ := h
  obtain ⟨u, q, r⟩ := hg
  refine ⟨_, fun j => ps_asg (p j) (q j) (hs j) (hw j) (h1 j), fun B F H ρ σ D hp R h => s B F H ρ σ _ R ((SPost.of h).imp fun d ρ1 F1 H1 R1 S1 k v hv => ?_)⟩
  cases ef : f d ρ1 with
  | ok ρ2 =>
    simp only [ef] at k
    exact r B F1 H1 ρ1 σ v d _ hp.1 R1 hv ρ2 ef fun σ' R' _ => k F1 H1 σ' R' (Le.refl _)
  | bad => simp only [ef] at k; exact k.elim
  | exc x => simp only [ef] at k; exact k.elim

/-! ### loops -/
/-- what an iterator yields, item by item, over any later heap -/
structure Iter (g : G) (B : Base) (J : It) (F : Hp) (ds : List D) : Prop where
  go : ∀ F1 H1, Le F F1 → Bx B F1 H1 → ∀ i d, ds[i]? = some d → J.go i H1 ∧ ∀ x H2, J.yld i H1 x H2 → ∃ F2, Is g F2 x d ∧ ((F2 = F1 ∧ H2 = H1) ∨ ∃ p o, H1 p = none ∧ F2 = upd F1 p o ∧ H2 = upd H1 p o)
  stop : ∀ F1 H1, Le F F1 → Bx B F1 H1 → J.stop ds.length H1
def DI (C : Ctx ι) (μ : List Md) (tg it : Expr) (m : Env → Out (List D × Env)) : Prop :=
  ∃ w : TI, (∀ j, PI (C.X j) tg it w) ∧ ∀ B F H ρ σ R', Rel C.g B F H μ ρ σ → Post C B F H μ σ (m ρ) (fun ds _ F' H' => ∀ J, Iter C.g B J F' ds → R' J H') → w σ H R'

theorem ds_for (ok : C.Ok) {tg it : Expr} {body : List Stmt} {mi : Env → Out (List D × Env)} {f : D → Env → Out Env} {μ1 : List Md} {tl : List Nat} (hi : DI C μ tg it mi) (hg : DG C μ tg μ1 f tl) (hb : DSs C rm μ μ1 body μ m)
    (hs : ∀ j x, foldedSetIterable it (C.X j).env x = pure x := by intro _ _; rfl) : DS C rm μL μ (.For tg it body [] pos) μ (M.forE mi f m) := by
  obtain ⟨w, pi, si⟩ := hi
  obtain ⟨tg', pg, sg⟩ := hg
  obtain ⟨tb, pb, sb⟩ := hb
  refine ⟨tFor w tg' tb, fun j => ps_for (ok.po j) (ok.calm j) (pi j) (pg j) (pb j) (hs j), fun B F H ρ σ D hp R h => ?_⟩
  refine si B F H ρ σ _ R ((SPost.of h).imp fun ds ρ1 F1 H1 R1 S1 k J hJ => ?_)
  refine ⟨fun i mm σ' H' => i + mm = ds.length ∧ ∃ F' ρ', Rel C.g B F' H' μ ρ' σ' ∧ Le F1 F' ∧ SPost C B F' μ μL rm D (M.each f m (ds.drop i) ρ'), ⟨ds.length, Nat.zero_add _, F1, ρ1, R1, Le.refl _, k⟩, ?_⟩
  rintro i mm σ' H' ⟨him, F', ρ', R', l, k⟩
  cases hd : ds[i]? with
  | none =>
    have hle : ds.length ≤ i := List.getElem?_eq_none_iff.mp hd
    have hi : i = ds.length := by omega
    subst hi
    refine .inl ⟨hJ.stop F' H' l R'.toBx, ?_⟩
    rw [List.drop_length] at k
    exact k F' H' σ' R' (Le.refl _)
  | some d =>
    obtain ⟨hlt, hget⟩ := List.getElem?_eq_some_iff.mp hd
    have hdrop : ds.drop i = d :: ds.drop (i + 1) := by rw [List.drop_eq_getElem_cons hlt, hget]
    rw [hdrop] at k
    obtain ⟨hgo, hy⟩ := hJ.go F' H' l R'.toBx i d hd
    refine .inr ⟨hgo, fun σ2 H2 => ∃ F2 ρ2, Rel C.g B F2 H2 μ ρ2 σ2 ∧ Le F1 F2 ∧ SPost C B F2 μ μL rm D (M.each f m (ds.drop (i + 1)) ρ2), ?_, fun x H2 hx => ?_⟩
    · rintro σ2 H2 ⟨F2, ρ2, h⟩
      exact ⟨mm - 1, by omega, by omega, F2, ρ2, h⟩
    · obtain ⟨F2, hv, hF⟩ := hy x H2 hx
      have key : Rel C.g B F2 H2 μ ρ' σ' ∧ Le F' F2 := by
        rcases hF with ⟨rfl, rfl⟩ | ⟨p, o, hn, rfl, rfl⟩
        · exact ⟨R', Le.refl _⟩
        · exact ⟨R'.new hn o, Le.upd (R'.toBx.fresh hn).1⟩
      obtain ⟨R2, l2⟩ := key
      unfold M.each at k
      cases ef : f d ρ' with
      | exc x => simp only [ef] at k; exact k.elim
      | bad => simp only [ef] at k; exact k.elim
      | ok ρ2 =>
        simp only [ef] at k
        refine sg B F2 H2 ρ' σ' x d _ hp.1 R2 hv ρ2 ef fun σ3 R3 _ => ?_
        refine sb B F2 H2 ρ2 σ3 _ hp R3 ?_
        cases em : m ρ2 with
        | nx ρ3 => simp only [em] at k; exact fun F4 H4 σ4 R4 l4 => ⟨F4, ρ3, R4, (l.trans l2).trans l4, SPost.le k (l2.trans l4)⟩
        | cont ρ3 => simp only [em] at k; exact fun F4 H4 σ4 R4 l4 => ⟨F4, ρ3, R4, (l.trans l2).trans l4, SPost.le k (l2.trans l4)⟩
        | brk ρ3 => simp only [em] at k; exact fun F4 H4 σ4 R4 l4 => k F4 H4 σ4 R4 (l2.trans l4)
        | ret e ρ3 => simp only [em] at k; exact k
        | exc x => simp only [em] at k; exact k
        | bad => simp only [em] at k; exact k.elim

theorem ds_while (ok : C.Ok) {c : Expr} {body : List Stmt} {mc : Env → Out (Bool × Env)} (n : Nat) (hc : DT C μ c mc) (hb : DSs C rm μ μ body μ m) : DS C rm μL μ (.While c body [] pos) μ (M.loop mc m n) := by
  obtain ⟨tc, pc, sc⟩ := hc
  obtain ⟨tb, pb, sb⟩ := hb
  refine ⟨tWhile tc tb, fun j => ps_while (ok.po j) (pc j) (pb j), fun B F H ρ σ D hp R h => ?_⟩
  refine ⟨fun k σ' H' => ∃ F' ρ', Rel C.g B F' H' μ ρ' σ' ∧ SPost C B F' μ μL rm D (M.loop mc m k ρ'), ⟨n, F, ρ, R, h⟩, ?_⟩
  rintro k σ' H' ⟨F', ρ', R', h⟩
  cases k with
  | zero => exact h.elim
  | succ k =>
    unfold M.loop at h
    refine sc B F' H' ρ' σ' _ R' ((SPost.of h).imp fun b ρ1 F1 H1 R1 S1 q => ?_)
    cases b with
    | false => exact q F1 H1 σ' R1 (Le.refl _)
    | true =>
      refine ⟨fun σ2 H2 => ∃ F2 ρ2, Rel C.g B F2 H2 μ ρ2 σ2 ∧ SPost C B F2 μ μL rm D (M.loop mc m k ρ2), ?_, ?_⟩
      · rintro σ2 H2 ⟨F2, ρ2, h⟩
        exact ⟨k, Nat.lt_succ_self _, F2, ρ2, h⟩
      · refine sb B F1 H1 ρ1 σ' _ hp R1 ?_
        have q : SPost C B F1 μ μL rm D (match m ρ1 with
          | .nx ρ2 => M.loop mc m k ρ2
          | .cont ρ2 => M.loop mc m k ρ2
          | .brk ρ2 => .nx ρ2
          | o => o) := q
        cases em : m ρ1 with
        | nx ρ3 => simp only [em] at q; exact fun F4 H4 σ4 R4 l4 => ⟨F4, ρ3, R4, SPost.le q l4⟩
        | cont ρ3 => simp only [em] at q; exact fun F4 H4 σ4 R4 l4 => ⟨F4, ρ3, R4, SPost.le q l4⟩
        | brk ρ3 => simp only [em] at q; exact fun F4 H4 σ4 R4 l4 => q F4 H4 σ4 R4 l4
        | ret e ρ3 => simp only [em] at q; exact q
        | exc x => simp only [em] at q; exact q
        | bad => simp only [em] at q; exact q.elim
end
end PyD

set_option Elab.async false
set_option linter.all false
set_option maxRecDepth 100000
namespace PyD
open PySem L2 PyProof.Rows

/-! ### a def's promise -/
def ioFrom : Nat → List Md → List Nat
  | _, [] => []
  | n, .ow :: pm => n :: ioFrom (n + 1) pm
  | n, .fz :: pm => ioFrom (n + 1) pm
  | n, .an :: pm => ioFrom (n + 1) pm
def ioOf (pm : List Md) : List Nat := ioFrom 0 pm
def setAll : Env → List Nat → List D → Env
  | ρ, i :: is, d :: ds => setAll (ρ.set i (some d)) is ds
  | ρ, _, _ => ρ
def outs : List Nat → Env → Out (List D)
  | [], _ => .ok []
  | i :: is, ρ => match ρ[i]? with
    | some (some d) => (outs is ρ).bind fun ds => .ok (d :: ds)
    | _ => .bad
def spOf (g : G) (pm : List Md) (rm : Md) (f : List D → Out (D × List D)) : Sp := fun vs H Q E =>
  ∃ F ds B, B.F0 = F ∧ B.H0 = H ∧ PinsOk B (ioOf pm) ∧ (∀ i ∈ ioOf pm, ∃ a, (i, a) ∈ B.pins) ∧ Rel g B F H pm (ds.map some) (vs.map some) ∧
    match f ds with
    | .ok (d, os) => ∀ v F' H', Rel g B F' H' pm (setAll (ds.map some) (ioOf pm) os) (vs.map some) → ResR g B F' H' rm v d → Q v H'
    | .exc x => ∀ cls d F' H', Bx B F' H' → XAt g F' H' x cls d → E cls d H'
    | .bad => False

theorem setAll_length : ∀ (is : List Nat) (ds : List D) (ρ : Env), (setAll ρ is ds).length = ρ.length
  | [], _, ρ => by unfold setAll; rfl
  | _ :: _, [], ρ => by unfold setAll; rfl
  | i :: is, d :: ds, ρ => by unfold setAll; rw [setAll_length is ds]; simp
theorem setAll_out : ∀ (is : List Nat) (ds : List D) (ρ : Env) (j : Nat), j ∉ is → (setAll ρ is ds)[j]? = ρ[j]?
  | [], _, ρ, j, _ => by unfold setAll; rfl
  | _ :: _, [], ρ, j, _ => by unfold setAll; rfl
  | i :: is, d :: ds, ρ, j, h => by
    rw [List.mem_cons, not_or] at h
    unfold setAll
    rw [setAll_out is ds _ j h.2, List.getElem?_set_ne (Ne.symm h.1)]
theorem outs_setAll {ρ' : Env} : ∀ (is : List Nat) (os : List D) (ρ : Env), outs is ρ' = .ok os → is.Nodup → (∀ i ∈ is, i < ρ.length) → ∀ j ∈ is, (setAll ρ is os)[j]? = ρ'[j]?
  | [], _, _, _, _, _, j, hj => by cases hj
  | i :: is, os, ρ, h, nd, hl, j, hj => by
    unfold outs at h
    rcases hr : ρ'[i]? with _ | (_ | d)
    · simp only [hr] at h; cases h
    · simp only [hr] at h; cases h
    · simp only [hr] at h
      cases ho : outs is ρ' with
      | ok ds =>
        rw [ho] at h
        cases h
        unfold setAll
        rw [List.nodup_cons] at nd
        by_cases x : j = i
        · subst x
          rw [setAll_out is ds _ j nd.1, List.getElem?_set_self (hl j List.mem_cons_self), hr]
        · rcases List.mem_cons.mp hj with q | q
          · exact absurd q x
          · exact outs_setAll is ds _ ho nd.2 (fun k hk => by rw [List.length_set]; exact hl k (List.mem_cons_of_mem _ hk)) j q
      | exc x => rw [ho] at h; cases h
      | bad => rw [ho] at h; cases h
theorem outs_ne : ∀ (is : List Nat) (ρ : Env) (x : Exc), outs is ρ ≠ .exc x
  | [], _, x, h => by cases h
  | i :: is, ρ, x, h => by
    unfold outs at h
    rcases hr : ρ[i]? with _ | (_ | d)
    · simp only [hr] at h; cases h
    · simp only [hr] at h; cases h
    · simp only [hr] at h
      cases ho : outs is ρ with
      | ok ds => rw [ho] at h; cases h
      | exc y => exact outs_ne is ρ y ho
      | bad => rw [ho] at h; cases h
theorem mem_ioFrom : ∀ {pm : List Md} {n i : Nat}, i ∈ ioFrom n pm ↔ n ≤ i ∧ i - n < pm.length ∧ md pm (i - n) = .ow
  | [], n, i => by unfold ioFrom; simp
  | m :: pm, n, i => by
    have ih := @mem_ioFrom pm (n + 1) i
    have tail : i ≠ n → (n + 1 ≤ i ∧ i - (n + 1) < pm.length ∧ md pm (i - (n + 1)) = .ow ↔ n ≤ i ∧ i - n < (m :: pm).length ∧ md (m :: pm) (i - n) = .ow) := fun ne => by
      by_cases q : n ≤ i
      · have e : i - n = (i - (n + 1)) + 1 := by omega
        rw [e, List.length_cons]
        unfold md
        rw [List.getElem?_cons_succ]
        constructor <;> (rintro ⟨a, b, c⟩; exact ⟨by omega, by omega, c⟩)
      · constructor <;> (rintro ⟨a, b, c⟩; exact absurd a (by omega))
    by_cases ne : i = n
    · subst ne
      have nin : i ∉ ioFrom (i + 1) pm := fun h => by have := (mem_ioFrom.mp h).1; omega
      cases m with
      | ow => unfold ioFrom; simp [md]
      | fz => unfold ioFrom; simp [md, nin]
      | an => unfold ioFrom; simp [md, nin]
    · rw [← tail ne, ← ih]
      cases m with
      | ow => show i ∈ n :: ioFrom (n + 1) pm ↔ i ∈ ioFrom (n + 1) pm; rw [List.mem_cons]; exact ⟨fun h => h.resolve_left ne, .inr⟩
      | fz => show i ∈ ioFrom (n + 1) pm ↔ i ∈ ioFrom (n + 1) pm; exact Iff.rfl
      | an => show i ∈ ioFrom (n + 1) pm ↔ i ∈ ioFrom (n + 1) pm; exact Iff.rfl
theorem ioFrom_nodup : ∀ (pm : List Md) (n : Nat), (ioFrom n pm).Nodup
  | [], n => by unfold ioFrom; exact List.nodup_nil
  | .ow :: pm, n => by
    unfold ioFrom
    exact List.nodup_cons.mpr ⟨fun h => by have := (mem_ioFrom.mp h).1; omega, ioFrom_nodup pm (n + 1)⟩
  | .fz :: pm, n => by unfold ioFrom; exact ioFrom_nodup pm (n + 1)
  | .an :: pm, n => by unfold ioFrom; exact ioFrom_nodup pm (n + 1)
theorem ioOf_nodup (pm : List Md) : (ioOf pm).Nodup := ioFrom_nodup pm 0
theorem mem_ioOf {pm : List Md} {i : Nat} : i ∈ ioOf pm ↔ i < pm.length ∧ md pm i = .ow := by
  unfold ioOf; rw [mem_ioFrom]; simp

/-! ### the context of a def's body -/
abbrev fctx (g : G) (N : List Str) (vs : List (Option Str)) (qual : Str) (st : Stmt) (f : Addr) (lv : Nat) (io : List Nat) (cdv : Value) (A : Around) (outer : List PySem.Env) (s : Shared) (H : Hp) (E : XK) : Ctx Unit where
  X := fun _ => cxOf (L2.CX g.P g.w) g.P g.w g.K g.mg g.base N qual (defScope st) f cdv A outer s H E
  g := g
  N := N
  vs := vs
  as := vs
  W := fun cls d _ H' => E cls d H'
  lv := lv
  io := io
  sc := defScope st
/-- the names of a def: every one a local or a cell -/
def visOne (sc : Scope) (x : Str) : Bool := (match sc.names.lookup x with
  | some .local => true
  | some .cell => true
  | _ => false) && !(x == ("__debug__" : Str)) && !(x == ("__classdict__" : Str))
def visC : List (Option Str) → List Str → Scope → Bool
  | [], _, _ => true
  | none :: vs, _ :: N, sc => visC vs N sc
  | some y :: vs, x :: N, sc => (y == x) && visOne sc y && visC vs N sc
  | _ :: _, [], _ => false
theorem visC_at {sc : Scope} : ∀ {vs : List (Option Str)} {N : List Str}, visC vs N sc = true → ∀ {i : Nat} {x : Str}, vs[i]? = some (some x) → N[i]? = some x ∧ Loc sc x ∧ (x == ("__debug__" : Str)) = false ∧ (x == ("__classdict__" : Str)) = false
  | [], _, _, i, x, hx => by simp at hx
  | none :: vs, _ :: N, h, 0, x, hx => by simp at hx
  | none :: vs, _ :: N, h, i + 1, x, hx => by
    unfold visC at h
    rw [List.getElem?_cons_succ] at hx ⊢
    exact visC_at h hx
  | some y :: vs, z :: N, h, 0, x, hx => by
    unfold visC visOne at h
    simp only [List.getElem?_cons_zero, Option.some.injEq] at hx
    subst hx
    rw [Bool.and_eq_true, Bool.and_eq_true, Bool.and_eq_true, Bool.and_eq_true] at h
    obtain ⟨⟨h0, ⟨h1, h2⟩, h3⟩, _⟩ := h
    refine ⟨by rw [List.getElem?_cons_zero, eq_of_beq h0], ?_, by simpa using h2, by simpa using h3⟩
    cases e : sc.names.lookup y with
    | none => rw [e] at h1; cases h1
    | some k =>
      rw [e] at h1
      cases k <;> first | exact .inl e | exact .inr e | cases h1
  | some y :: vs, z :: N, h, i + 1, x, hx => by
    unfold visC at h
    rw [Bool.and_eq_true] at h
    rw [List.getElem?_cons_succ] at hx ⊢
    exact visC_at h.2 hx
  | none :: _, [], h, _, _, _ => by unfold visC at h; cases h
  | some _ :: _, [], h, _, _, _ => by unfold visC at h; cases h

theorem fctx_ok {g : G} {N ps : List Str} {vs : List (Option Str)} {qual : Str} {st : Stmt} {f : Addr} {lv : Nat} {io : List Nat} {cdv : Value} {A : Around} {outer : List PySem.Env} {s : Shared} {H : Hp} {E : XK}
    (S : FnScope N ps (defScope st)) (hv : visC vs N (defScope st) = true) (hr : Room lv (A.deeper (envOfC qual (defScope st) s.heap.objs.size f cdv))) : (fctx g N vs qual st f lv io cdv A outer s H E).Ok where
  hP := fun _ => rfl
  hw := fun _ => rfl
  hK := fun _ => rfl
  hm := fun _ => rfl
  hb := fun _ => rfl
  calm := fun _ => rfl
  hN := fun _ => rfl
  nd := S.nd
  vis := fun _ i x hx => by
    obtain ⟨h0, h1, h2, h3⟩ := visC_at hv hx
    exact ⟨h0, h1.elim .inl fun q => .inr (.inl q), h2, h3⟩
  asg := fun _ i x hx => ⟨(visC_at hv hx).1, (visC_at hv hx).2.1, .inl rfl⟩
  tk := fun _ => takes_of rfl rfl rfl rfl
  po := fun _ => passes_of rfl
  room := fun _ => hr
  hsc := fun _ => rfl

namespace M
/-- a def, by what its body does -/
@[irreducible] def fn (pm : List Md) (rm : Md) (N : Nat) (body : Env → SOut) : List D → Out (D × List D) := fun ds =>
  if ds.length = pm.length then (match body (ds.map some ++ List.replicate (N - pm.length) none) with
    | .ret d ρ => (outs (ioOf pm) ρ).bind fun os => .ok (d, os)
    | .nx ρ => if rm = .ow then .bad else (outs (ioOf pm) ρ).bind fun os => .ok (.non, os)
    | .exc x => .exc x
    | _ => .bad) else .bad
end M

theorem md_app {pm : List Md} {n i : Nat} : md (pm ++ List.replicate n .fz) i = md pm i := by
  unfold md
  by_cases h : i < pm.length
  · rw [List.getElem?_append_left h]
  · rw [List.getElem?_append_right (by omega), List.getElem?_eq_none (l := pm) (by omega)]
    by_cases q : i - pm.length < n
    · rw [List.getElem?_replicate]; split <;> rfl
    · rw [List.getElem?_eq_none (by simpa using by omega)]

section
variable {g : G} {pm : List Md} {rm : Md} {N ps : List Str} {vz : List (Option Str)} {x qual : Str} {st : Stmt} {f : Addr} {fd : FuncData} {k : Nat} {m : Env → SOut} {μ' : List Md}
theorem fn_ok (F : Fun g.K x qual st f fd) (S : FnScope N ps (defScope st)) (hv : visC vz N (defScope st) = true) (hl : ps.length = pm.length) (hl2 : ps.length ≤ N.length)
    (hb : ∀ cdv A outer s H E, (fctx g N vz qual st f k (ioOf pm) cdv A outer s H E).Ok → DSs (fctx g N vz qual st f k (ioOf pm) cdv A outer s H E) rm [] (pm ++ List.replicate (N.length - pm.length) .fz) (defBody st) μ' m)
    (hμ : ioOk (ioOf pm) μ' = true) :
    FnOk g.P g.w g.K g.mg g.base (L2.CX g.P g.w) (k + 1) f fd ps (spOf g pm rm (M.fn pm rm N.length m)) := by
  refine F.okX S (fun vs H Q E h => ?_) (fun cdv A outer s H vs Q E hr h => ?_)
  · obtain ⟨F0, ds, B, _, _, _, _, R, _⟩ := h
    have h1 := R.lm
    rw [List.length_map] at h1
    omega
  · obtain ⟨F0, ds, B, hF, hH, hp, hpin, R, h⟩ := h
    have ok : (fctx g N vz qual st f k (ioOf pm) cdv A outer s H E).Ok := fctx_ok S hv hr
    obtain ⟨t, pt, stt⟩ := hb cdv A outer s H E ok
    refine ⟨t, pt (), stt B F0 H (ds.map some ++ List.replicate (N.length - pm.length) none) _ _ hp ?_ ?_⟩
    · -- the entry
      have lm := R.lm
      have lr := R.lr
      rw [List.length_map] at lm
      rw [List.length_map, List.length_map] at lr
      have hst : L2.start N vs = vs.map some ++ List.replicate (N.length - pm.length) none := by unfold L2.start; rw [lm]
      show Rel g B F0 H _ _ (L2.start N vs)
      rw [hst]
      refine ⟨R.toBx, by simp; omega, by simp; omega, fun i d e => ?_, fun i j a n hi hj si sj => ?_, fun p hpm => ?_, fun i hi => ?_⟩
      · have hi : i < ds.length := by
          by_cases q : i < ds.length
          · exact q
          · rw [List.getElem?_append_right (by simpa using q), List.getElem?_replicate] at e
            split at e <;> cases e
        rw [List.getElem?_append_left (by simpa using hi)] at e
        obtain ⟨v, h1, h2⟩ := R.vars i d e
        refine ⟨v, ?_, by rw [md_app]; exact h2⟩
        rw [List.getElem?_append_left (by simpa using by omega)]
        exact h1
      · rw [md_app] at hi hj
        have f : ∀ i, (vs.map some ++ List.replicate (N.length - pm.length) none)[i]? = some (some (V.ref a)) → (vs.map some)[i]? = some (some (V.ref a)) := fun i e => by
          by_cases q : i < vs.length
          · rw [List.getElem?_append_left (by simpa using q)] at e; exact e
          · rw [List.getElem?_append_right (by simpa using q), List.getElem?_replicate] at e
            split at e <;> cases e
        exact R.sep i j a n hi hj (f i si) (f j sj)
      · have q := R.pin p hpm
        have ql := (List.getElem?_eq_some_iff.mp q).1
        rw [List.getElem?_append_left ql]; exact q
      · rw [md_app] at hi
        obtain ⟨d, e⟩ := R.there i hi
        have ql := (List.getElem?_eq_some_iff.mp e).1
        exact ⟨d, by rw [List.getElem?_append_left ql]; exact e⟩
    · -- the end
      have lm := R.lm
      have lr := R.lr
      rw [List.length_map] at lm
      rw [List.length_map, List.length_map] at lr
      have hds : ds.length = pm.length := by omega
      have back : ∀ (ρ' : Env) (os : List D) (F' H' : Hp) (σ' : L2.St) (μ'' : List Md), outs (ioOf pm) ρ' = .ok os → Rel g B F' H' μ'' ρ' σ' → ioOk (ioOf pm) μ'' = true → Rel g B F' H' pm (setAll (ds.map some) (ioOf pm) os) (vs.map some) := by
        intro ρ' os F' H' σ' μ'' ho R' hio
        have le : Le F0 F' := hF ▸ R'.ext
        refine ⟨R'.toBx, by rw [setAll_length]; simpa using lr, by simpa using lm, fun i d e => ?_, fun i j a n hi hj si sj => R.sep i j a n hi hj si sj, R.pin, fun i hi => ?_⟩
        · by_cases hi : i ∈ ioOf pm
          · rw [outs_setAll (ioOf pm) os _ ho (ioOf_nodup pm) (fun j hj => by rw [List.length_map]; have := (mem_ioOf.mp hj).1; omega) i hi] at e
            obtain ⟨a, ha⟩ := hpin i hi
            have hm2 : md μ'' i = .ow := of_decide_eq_true (List.all_eq_true.mp hio i hi)
            obtain ⟨b, o, y1, y2, y3, y4, y5⟩ := R'.own_there hm2 e
            have y1' := R'.pin _ ha
            rw [y1] at y1'; cases y1'
            refine ⟨.ref a, R.pin _ ha, ?_⟩
            rw [(mem_ioOf.mp hi).2]
            exact ⟨a, o, rfl, y2, y3, y4, y5⟩
          · rw [setAll_out _ _ _ _ hi] at e
            obtain ⟨v, y1, y2⟩ := R.vars i d e
            refine ⟨v, y1, ?_⟩
            cases hm : md pm i with
            | fz => rw [hm] at y2; exact Is.mono le y2
            | an =>
              rw [hm] at y2
              rcases y2 with y2 | ⟨a, o, z1, z2, z3, z4⟩
              · exact .inl (Is.mono le y2)
              · exact .inr ⟨a, o, z1, z2, z3, z4.mono le⟩
            | ow =>
              exfalso
              refine hi (mem_ioOf.mpr ⟨?_, hm⟩)
              by_cases q : i < pm.length
              · exact q
              · unfold md at hm; rw [List.getElem?_eq_none (by omega)] at hm; cases hm
        · have hi' : i ∈ ioOf pm := by
            refine mem_ioOf.mpr ⟨?_, hi⟩
            by_cases q : i < pm.length
            · exact q
            · unfold md at hi; rw [List.getElem?_eq_none (by omega)] at hi; cases hi
          have hm2 : md μ'' i = .ow := of_decide_eq_true (List.all_eq_true.mp hio i hi')
          obtain ⟨d, e⟩ := R'.there i hm2
          exact ⟨d, by rw [outs_setAll (ioOf pm) os _ ho (ioOf_nodup pm) (fun j hj => by rw [List.length_map]; have := (mem_ioOf.mp hj).1; omega) i hi']; exact e⟩
      unfold M.fn at h
      rw [if_pos hds] at h
      cases hm : m (ds.map some ++ List.replicate (N.length - pm.length) none) with
      | ret d ρ' =>
        rw [hm] at h
        intro F' H' σ' μ'' v R' hio hv'
        cases ho : outs (ioOf pm) ρ' with
        | ok os => simp only [ho] at h; exact h v F' H' (back ρ' os F' H' σ' μ'' ho R' hio) hv'
        | exc x => simp only [ho] at h; exact absurd ho (outs_ne _ _ _)
        | bad => simp only [ho] at h
      | nx ρ' =>
        rw [hm] at h
        intro F' H' σ' R' l
        by_cases q : rm = .ow
        · simp only [if_pos q] at h
        · simp only [if_neg q] at h
          cases ho : outs (ioOf pm) ρ' with
          | ok os =>
            simp only [ho] at h
            refine h .non F' H' (back ρ' os F' H' σ' μ' ho R' hμ) ?_
            cases rm with
            | ow => exact absurd rfl q
            | fz => exact .non
            | an => exact .non
          | exc x => simp only [ho] at h; exact absurd ho (outs_ne _ _ _)
          | bad => simp only [ho] at h
      | brk ρ' => rw [hm] at h; exact h.elim
      | cont ρ' => rw [hm] at h; exact h.elim
      | exc x =>
        rw [hm] at h
        exact fun cls d F' H' σ' b k => h cls d F' H' b k
      | bad => rw [hm] at h; exact h.elim
end
end PyD

set_option Elab.async false
set_option linter.all false
set_option maxRecDepth 100000
namespace PyD
open PySem L2 PyProof.Rows

/-! ### calls of the text's defs -/
structure Cal (g : G) (k : Nat) (x : Str) (pm : List Md) (rm : Md) (f : List D → Out (D × List D)) : Prop where
  ex : ∃ (a : Addr) (fd : FuncData) (ps : List Str), FnOk g.P g.w g.K g.mg g.base (L2.CX g.P g.w) k a fd ps (spOf g pm rm f) ∧ g.mg x = some (.ref a) ∧ PySem.W.keepIn g.K (.ref a) = true ∧ Binds g.K fd ps []
theorem Cal.mono {g : G} {k k' : Nat} {x : Str} {pm : List Md} {rm : Md} {f : List D → Out (D × List D)} (c : Cal g k x pm rm f) (h : k ≤ k') : Cal g k' x pm rm f := by
  obtain ⟨a, fd, ps, h1, h2⟩ := c.ex
  exact ⟨a, fd, ps, h1.mono h, h2⟩

def owIdx : List Md → List Arg → List Nat
  | .ow :: pm, .var i :: as => i :: owIdx pm as
  | .ow :: pm, .val _ :: as => owIdx pm as
  | .fz :: pm, _ :: as => owIdx pm as
  | .an :: pm, _ :: as => owIdx pm as
  | _, _ => []
def chkA (μ : List Md) (ow : List Nat) : List Md → List Arg → Bool
  | [], [] => true
  | .fz :: pm, .val _ :: as => chkA μ ow pm as
  | .fz :: pm, .var i :: as => decide (md μ i = .fz) && chkA μ ow pm as
  | .an :: pm, .val _ :: as => chkA μ ow pm as
  | .an :: pm, .var i :: as => !ow.contains i && chkA μ ow pm as
  | .ow :: pm, .var i :: as => decide (md μ i = .ow) && chkA μ ow pm as
  | _, _ => false
def chk (μ pm : List Md) (as : List Arg) : Bool := chkA μ (owIdx pm as) pm as && decide (owIdx pm as).Nodup
def gets : List Arg → Env → Out (List D)
  | [], _ => .ok []
  | a :: as, ρ => (get a ρ).bind fun d => (gets as ρ).bind fun ds => .ok (d :: ds)
def M.call (μ pm : List Md) (f : List D → Out (D × List D)) (ms : Env → Out (List Arg × Env)) : Env → Out (D × Env) := fun ρ => (ms ρ).bind fun p =>
  if chk μ pm p.1 = true then (gets p.1 p.2).bind fun ds => (f ds).bind fun r => .ok (r.1, setAll p.2 (owIdx pm p.1) r.2) else .bad

theorem md_lt {pm : List Md} {q : Nat} (h : md pm q = .ow) : q < pm.length := by
  by_cases x : q < pm.length
  · exact x
  · unfold md at h; rw [List.getElem?_eq_none (by omega)] at h; cases h
theorem chkA_len {μ : List Md} {ow : List Nat} : ∀ {pm : List Md} {as : List Arg}, chkA μ ow pm as = true → as.length = pm.length
  | [], [], _ => rfl
  | .fz :: pm, .val _ :: as, h => by unfold chkA at h; rw [List.length_cons, List.length_cons, chkA_len h]
  | .fz :: pm, .var i :: as, h => by unfold chkA at h; rw [Bool.and_eq_true] at h; rw [List.length_cons, List.length_cons, chkA_len h.2]
  | .an :: pm, .val _ :: as, h => by unfold chkA at h; rw [List.length_cons, List.length_cons, chkA_len h]
  | .an :: pm, .var i :: as, h => by unfold chkA at h; rw [Bool.and_eq_true] at h; rw [List.length_cons, List.length_cons, chkA_len h.2]
  | .ow :: pm, .var i :: as, h => by unfold chkA at h; rw [Bool.and_eq_true] at h; rw [List.length_cons, List.length_cons, chkA_len h.2]
  | .ow :: pm, .val _ :: as, h => by unfold chkA at h; cases h
  | [], _ :: _, h => by unfold chkA at h; cases h
  | .ow :: pm, [], h => by unfold chkA at h; cases h
  | .fz :: pm, [], h => by unfold chkA at h; cases h
  | .an :: pm, [], h => by unfold chkA at h; cases h
/-- what the check says of the q-th argument -/
theorem chkA_at {μ : List Md} {ow : List Nat} : ∀ {pm : List Md} {as : List Arg}, chkA μ ow pm as = true → ∀ (q : Nat) (a : Arg), as[q]? = some a →
    (md pm q = .fz ∧ ∀ i, a = .var i → md μ i = .fz) ∨ (md pm q = .an ∧ ∀ i, a = .var i → i ∉ ow) ∨ (md pm q = .ow ∧ ∃ i, a = .var i ∧ md μ i = .ow)
  | [], [], _, q, a, h => by simp at h
  | [], _ :: _, h, _, _, _ => by unfold chkA at h; cases h
  | .ow :: pm, [], h, _, _, _ => by unfold chkA at h; cases h
  | .fz :: pm, [], h, _, _, _ => by unfold chkA at h; cases h
  | .an :: pm, [], h, _, _, _ => by unfold chkA at h; cases h
  | .ow :: pm, .val _ :: as, h, _, _, _ => by unfold chkA at h; cases h
  | .fz :: pm, .val d :: as, h, 0, a, e => by simp at e; subst e; exact .inl ⟨rfl, fun i e => by cases e⟩
  | .fz :: pm, .var i :: as, h, 0, a, e => by
    simp at e; subst e
    unfold chkA at h; rw [Bool.and_eq_true, decide_eq_true_eq] at h
    exact .inl ⟨rfl, fun j e => by cases e; exact h.1⟩
  | .an :: pm, .val d :: as, h, 0, a, e => by simp at e; subst e; exact .inr (.inl ⟨rfl, fun i e => by cases e⟩)
  | .an :: pm, .var i :: as, h, 0, a, e => by
    simp at e; subst e
    unfold chkA at h; rw [Bool.and_eq_true] at h
    refine .inr (.inl ⟨rfl, fun j e => ?_⟩)
    cases e
    have h1 := h.1
    rw [Bool.not_eq_true'] at h1
    intro q
    rw [List.contains_iff_mem.mpr q] at h1; cases h1
  | .ow :: pm, .var i :: as, h, 0, a, e => by
    simp at e; subst e
    unfold chkA at h; rw [Bool.and_eq_true, decide_eq_true_eq] at h
    exact .inr (.inr ⟨rfl, i, rfl, h.1⟩)
  | .fz :: pm, .val d :: as, h, q + 1, a, e => by unfold chkA at h; exact chkA_at (pm := pm) h q a (by simpa using e)
  | .fz :: pm, .var i :: as, h, q + 1, a, e => by unfold chkA at h; rw [Bool.and_eq_true] at h; exact chkA_at (pm := pm) h.2 q a (by simpa using e)
  | .an :: pm, .val d :: as, h, q + 1, a, e => by unfold chkA at h; exact chkA_at (pm := pm) h q a (by simpa using e)
  | .an :: pm, .var i :: as, h, q + 1, a, e => by unfold chkA at h; rw [Bool.and_eq_true] at h; exact chkA_at (pm := pm) h.2 q a (by simpa using e)
  | .ow :: pm, .var i :: as, h, q + 1, a, e => by unfold chkA at h; rw [Bool.and_eq_true] at h; exact chkA_at (pm := pm) h.2 q a (by simpa using e)
/-- the places of the changed parameters, and the names that are handed over -/
theorem zip_ow {μ : List Md} {ow : List Nat} : ∀ {pm : List Md} {as : List Arg} {n : Nat}, chkA μ ow pm as = true → (ioFrom n pm).length = (owIdx pm as).length ∧
    (∀ p i, (p, i) ∈ (ioFrom n pm).zip (owIdx pm as) → ∃ q, p = n + q ∧ md pm q = .ow ∧ as[q]? = some (.var i)) ∧ (∀ i ∈ owIdx pm as, ∃ p, (p, i) ∈ (ioFrom n pm).zip (owIdx pm as)) ∧
    (∀ q, q < pm.length → md pm q = .ow → ∃ i, (n + q, i) ∈ (ioFrom n pm).zip (owIdx pm as))
  | [], [], n, _ => by unfold ioFrom owIdx; exact ⟨rfl, by simp, by simp, by simp⟩
  | [], _ :: _, _, h => by unfold chkA at h; cases h
  | .ow :: pm, [], _, h => by unfold chkA at h; cases h
  | .fz :: pm, [], _, h => by unfold chkA at h; cases h
  | .an :: pm, [], _, h => by unfold chkA at h; cases h
  | .ow :: pm, .val _ :: as, _, h => by unfold chkA at h; cases h
  | .fz :: pm, a :: as, n, h => by
    have h' : chkA μ ow pm as = true := by cases a <;> (unfold chkA at h; first | exact h | exact (Bool.and_eq_true_iff.mp h).2)
    obtain ⟨h1, h2, h3, h4⟩ := zip_ow (n := n + 1) h'
    unfold ioFrom owIdx
    refine ⟨h1, fun p i e => ?_, h3, fun q hq hm => ?_⟩
    · obtain ⟨q, x, y, z⟩ := h2 p i e; exact ⟨q + 1, by omega, y, by simpa using z⟩
    · cases q with
      | zero => cases hm
      | succ q => obtain ⟨i, hi⟩ := h4 q (by simpa using hq) hm; exact ⟨i, by rw [show n + (q + 1) = n + 1 + q by omega]; exact hi⟩
  | .an :: pm, a :: as, n, h => by
    have h' : chkA μ ow pm as = true := by cases a <;> (unfold chkA at h; first | exact h | exact (Bool.and_eq_true_iff.mp h).2)
    obtain ⟨h1, h2, h3, h4⟩ := zip_ow (n := n + 1) h'
    unfold ioFrom owIdx
    refine ⟨h1, fun p i e => ?_, h3, fun q hq hm => ?_⟩
    · obtain ⟨q, x, y, z⟩ := h2 p i e; exact ⟨q + 1, by omega, y, by simpa using z⟩
    · cases q with
      | zero => cases hm
      | succ q => obtain ⟨i, hi⟩ := h4 q (by simpa using hq) hm; exact ⟨i, by rw [show n + (q + 1) = n + 1 + q by omega]; exact hi⟩
  | .ow :: pm, .var i0 :: as, n, h => by
    have h' : chkA μ ow pm as = true := by unfold chkA at h; exact (Bool.and_eq_true_iff.mp h).2
    obtain ⟨h1, h2, h3, h4⟩ := zip_ow (n := n + 1) h'
    unfold ioFrom owIdx
    refine ⟨by rw [List.length_cons, List.length_cons, h1], fun p i e => ?_, fun i hi => ?_, fun q hq hm => ?_⟩
    · rw [List.zip_cons_cons, List.mem_cons] at e
      rcases e with e | e
      · cases e; exact ⟨0, rfl, rfl, rfl⟩
      · obtain ⟨q, x, y, z⟩ := h2 p i e; exact ⟨q + 1, by omega, y, by simpa using z⟩
    · rcases List.mem_cons.mp hi with e | e
      · subst e; exact ⟨n, List.mem_cons_self⟩
      · obtain ⟨p, hp⟩ := h3 i e; exact ⟨p, List.mem_cons_of_mem _ hp⟩
    · cases q with
      | zero => exact ⟨i0, List.mem_cons_self⟩
      | succ q => obtain ⟨i, hi⟩ := h4 q (by simpa using hq) hm; exact ⟨i, List.mem_cons_of_mem _ (by rw [show n + (q + 1) = n + 1 + q by omega]; exact hi)⟩
theorem setAll_pair {ρ₁ ρ₂ : Env} : ∀ {ps is : List Nat} {os : List D}, ps.Nodup → is.Nodup → ps.length = is.length → (∀ p i, (p, i) ∈ ps.zip is → ∃ d, ρ₁[p]? = some (some d) ∧ ρ₂[i]? = some (some d)) →
    ∀ p i, (p, i) ∈ ps.zip is → (setAll ρ₁ ps os)[p]? = (setAll ρ₂ is os)[i]? := by
  intro ps
  induction ps generalizing ρ₁ ρ₂ with
  | nil => intro is os _ _ _ _ p i h; simp at h
  | cons p0 ps ih =>
    intro is os n1 n2 hl hd p i h
    cases is with
    | nil => simp at hl
    | cons i0 is =>
      rw [List.nodup_cons] at n1 n2
      cases os with
      | nil =>
        unfold setAll
        obtain ⟨d, h1, h2⟩ := hd p i h
        rw [h1, h2]
      | cons o os =>
        unfold setAll
        have tl : ∀ p i, (p, i) ∈ ps.zip is → p ≠ p0 ∧ i ≠ i0 := fun p i e => ⟨fun q => n1.1 (q ▸ (List.of_mem_zip e).1), fun q => n2.1 (q ▸ (List.of_mem_zip e).2)⟩
        rw [List.zip_cons_cons, List.mem_cons] at h
        rcases h with h | h
        · cases h
          obtain ⟨d, h1, h2⟩ := hd _ _ List.mem_cons_self
          rw [setAll_out _ _ _ _ n1.1, setAll_out _ _ _ _ n2.1, List.getElem?_set_self (List.getElem?_eq_some_iff.mp h1).1, List.getElem?_set_self (List.getElem?_eq_some_iff.mp h2).1]
        · refine ih n1.2 n2.2 (by simpa using hl) (fun p i e => ?_) p i h
          obtain ⟨x, y⟩ := tl p i e
          obtain ⟨d, h1, h2⟩ := hd p i (List.mem_cons_of_mem _ e)
          exact ⟨d, by rw [List.getElem?_set_ne (Ne.symm x)]; exact h1, by rw [List.getElem?_set_ne (Ne.symm y)]; exact h2⟩

section
variable {g : G} {F H : Hp} {σ : L2.St} {ρ : Env}
theorem ArgsR.at : ∀ {vs : List V} {as : List Arg}, ArgsR g F σ vs as → vs.length = as.length ∧ ∀ (q : Nat) (a : Arg), as[q]? = some a → ∃ v, vs[q]? = some v ∧ ArgR g F σ v a
  | [], [], _ => ⟨rfl, fun q a e => by simp at e⟩
  | v :: vs, a :: as, h => by
    obtain ⟨h1, h2⟩ := h
    obtain ⟨i1, i2⟩ := ArgsR.at h2
    refine ⟨by rw [List.length_cons, List.length_cons, i1], fun q b e => ?_⟩
    cases q with
    | zero => simp at e; subst e; exact ⟨v, rfl, h1⟩
    | succ q => obtain ⟨u, x, y⟩ := i2 q b (by simpa using e); exact ⟨u, by simpa using x, y⟩
  | [], _ :: _, h => h.elim
  | _ :: _, [], h => h.elim
theorem ArgsR.mono {F' : Hp} (l : Le F F') : ∀ {vs : List V} {as : List Arg}, ArgsR g F σ vs as → ArgsR g F' σ vs as
  | [], [], _ => trivial
  | _ :: _, _ :: _, h => ⟨h.1.mono l, ArgsR.mono l h.2⟩
  | [], _ :: _, h => h.elim
  | _ :: _, [], h => h.elim
theorem gets_at : ∀ {as : List Arg} {ds : List D}, gets as ρ = .ok ds → ds.length = as.length ∧ ∀ (q : Nat) (a : Arg), as[q]? = some a → ∃ d, ds[q]? = some d ∧ get a ρ = .ok d
  | [], ds, h => by cases h; exact ⟨rfl, fun q a e => by simp at e⟩
  | a :: as, ds, h => by
    unfold gets at h
    cases e1 : get a ρ with
    | ok d =>
      rw [e1] at h
      cases e2 : gets as ρ with
      | ok es =>
        rw [Out.bind_ok, e2] at h
        cases h
        obtain ⟨i1, i2⟩ := gets_at e2
        refine ⟨by rw [List.length_cons, List.length_cons, i1], fun q b e => ?_⟩
        cases q with
        | zero => simp at e; subst e; exact ⟨d, rfl, e1⟩
        | succ q => obtain ⟨u, x, y⟩ := i2 q b (by simpa using e); exact ⟨u, by simpa using x, y⟩
      | exc x => rw [Out.bind_ok, e2] at h; cases h
      | bad => rw [Out.bind_ok, e2] at h; cases h
    | exc x => rw [e1] at h; cases h
    | bad => rw [e1] at h; cases h
theorem gets_ne : ∀ (as : List Arg) (ρ : Env) (x : Exc), gets as ρ ≠ .exc x
  | [], _, x, h => by cases h
  | a :: as, ρ, x, h => by
    unfold gets at h
    cases e1 : get a ρ with
    | ok d =>
      rw [e1] at h
      cases e2 : gets as ρ with
      | ok es => rw [Out.bind_ok, e2] at h; cases h
      | exc y => exact gets_ne as ρ y e2
      | bad => rw [Out.bind_ok, e2] at h; cases h
    | exc y => exact get_ne _ _ _ e1
    | bad => rw [e1] at h; cases h

variable {B : Base} {μ pm : List Md} {vs : List V} {as : List Arg} {ds : List D}
/-- the callee's entry -/
def cB (F H : Hp) (pm : List Md) (vs : List V) : Base := ⟨F, H, (ioOf pm).filterMap fun (p : Nat) => match vs[p]? with
  | some (V.ref a) => some a
  | _ => none, (ioOf pm).filterMap fun (p : Nat) => match vs[p]? with
  | some (V.ref a) => some (p, a)
  | _ => none⟩
theorem cB_a {a : Addr} : a ∈ (cB F H pm vs).A0 ↔ ∃ p ∈ ioOf pm, vs[p]? = some (.ref a) := by
  show a ∈ List.filterMap _ _ ↔ _
  rw [List.mem_filterMap]
  constructor
  · rintro ⟨p, hp, e⟩
    refine ⟨p, hp, ?_⟩
    split at e
    · cases e; assumption
    · cases e
  · rintro ⟨p, hp, e⟩
    exact ⟨p, hp, by rw [e]⟩
theorem cB_p {p : Nat} {a : Addr} : (p, a) ∈ (cB F H pm vs).pins ↔ p ∈ ioOf pm ∧ vs[p]? = some (.ref a) := by
  show (p, a) ∈ List.filterMap _ _ ↔ _
  rw [List.mem_filterMap]
  constructor
  · rintro ⟨q, hq, e⟩
    split at e
    · cases e; exact ⟨hq, by assumption⟩
    · cases e
  · rintro ⟨hp, e⟩
    exact ⟨p, hp, by rw [e]⟩
theorem cB_ok : PinsOk (cB F H pm vs) (ioOf pm) := by
  refine ⟨fun p hp => (cB_p.mp (show (p.1, p.2) ∈ _ from hp)).1, fun a ha => ?_⟩
  obtain ⟨p, hp, e⟩ := cB_a.mp ha
  exact ⟨(p, a), cB_p.mpr ⟨hp, e⟩, rfl⟩

/-- what is handed over: the owned ones -/
theorem own_arg (R : Rel g B F H μ ρ σ) (hc : chkA μ (owIdx pm as) pm as = true) (ha : ArgsR g F σ vs as) {p : Nat} (hp : p ∈ ioOf pm) : ∃ i a o d, as[p]? = some (.var i) ∧ md μ i = .ow ∧ i ∈ owIdx pm as ∧ (p, i) ∈ (ioOf pm).zip (owIdx pm as) ∧ vs[p]? = some (.ref a) ∧ σ[i]? = some (some (.ref a)) ∧
    ρ[i]? = some (some d) ∧ H a = some o ∧ CellR g F a o d ∧ F a = none ∧ (a ∈ B.A0 ∨ B.H0 a = none) := by
  obtain ⟨hl, hm⟩ := mem_ioOf.mp hp
  obtain ⟨z1, z2, z3, z4⟩ := zip_ow (n := 0) hc
  obtain ⟨i, hz⟩ := z4 p hl hm
  rw [Nat.zero_add] at hz
  obtain ⟨q, e1, _, e3⟩ := z2 p i hz
  rw [Nat.zero_add] at e1; subst e1
  obtain ⟨al, av⟩ := ha.at
  obtain ⟨v, hv, hr⟩ := av p _ e3
  have hmi : md μ i = .ow := by
    rcases chkA_at hc p _ e3 with ⟨x, _⟩ | ⟨x, _⟩ | ⟨_, j, y, z⟩
    · rw [hm] at x; cases x
    · rw [hm] at x; cases x
    · cases y; exact z
  obtain ⟨d, hd⟩ := R.there i hmi
  obtain ⟨a, o, h1, h2, h3, h4, h5⟩ := R.own_there hmi hd
  have hr : σ[i]? = some (some v) := hr
  rw [h1] at hr; cases hr
  exact ⟨i, a, o, d, e3, hmi, (List.of_mem_zip hz).2, hz, hv, h1, hd, h2, h3, h4, h5⟩

theorem enter (R : Rel g B F H μ ρ σ) (hc : chk μ pm as = true) (ha : ArgsR g F σ vs as) (hg : gets as ρ = .ok ds) : Rel g (cB F H pm vs) F H pm (ds.map some) (vs.map some) := by
  obtain ⟨hc, nd⟩ := Bool.and_eq_true_iff.mp hc
  have nd : (owIdx pm as).Nodup := of_decide_eq_true nd
  obtain ⟨al, av⟩ := ha.at
  obtain ⟨gl, gv⟩ := gets_at hg
  have pl := chkA_len hc
  refine ⟨⟨R.sub, Le.refl _, fun a o e _ => e, fun a o _ _ => rfl, fun a e => ?_⟩, by rw [List.length_map, List.length_map]; omega, by rw [List.length_map]; omega, fun q d e => ?_, fun p q a n hp hq sp sq => ?_, fun p hp => ?_, fun q hq => ?_⟩
  · obtain ⟨p, hp, e'⟩ := cB_a.mp e
    obtain ⟨i, b, o, d, _, _, _, _, y, _, _, z, _⟩ := own_arg R hc ha hp
    rw [e'] at y; cases y
    exact ⟨o, z⟩
  · rw [List.getElem?_map] at e
    have hq : q < as.length := by
      by_cases x : q < as.length
      · exact x
      · rw [List.getElem?_eq_none (by omega)] at e; cases e
    have ea : as[q]? = some as[q] := List.getElem?_eq_getElem hq
    obtain ⟨d', x1, x2⟩ := gv q _ ea
    rw [x1] at e; cases e
    obtain ⟨v, y1, y2⟩ := av q _ ea
    refine ⟨v, by rw [List.getElem?_map, y1]; rfl, ?_⟩
    have rd := R.arg y2 x2
    rcases chkA_at hc q _ ea with ⟨hm, z⟩ | ⟨hm, z⟩ | ⟨hm, i, z, z2⟩
    · rw [hm]
      cases hh : as[q] with
      | val d2 => rw [hh] at x2 y2; cases x2; exact y2
      | var i =>
        rw [hh] at x2 y2
        have hmi := z i hh
        unfold get at x2
        rcases hr : ρ[i]? with _ | (_ | d2)
        · simp only [hr] at x2; cases x2
        · simp only [hr] at x2; cases x2
        · simp only [hr] at x2; cases x2
          obtain ⟨u, w1, w2⟩ := R.vars i d hr
          have y2 : σ[i]? = some (some v) := y2
          rw [y2] at w1; cases w1
          rw [hmi] at w2; exact w2
    · rw [hm]
      rcases rd with rd | ⟨a, o, rfl, w1, w2⟩
      · exact .inl rd
      · refine .inr ⟨a, o, rfl, w1, fun hA => ?_, w2⟩
        obtain ⟨p, hp, e'⟩ := cB_a.mp hA
        obtain ⟨i, b, o', d', u1, u2, u3, u4, u5, u6, u7, u8, u9, u10, u11⟩ := own_arg R hc ha hp
        rw [e'] at u5; cases u5
        cases hh : as[q] with
        | val d2 =>
          -- shared data does not stand at an owned place
          rw [hh] at y2
          have y2 : Is g F (.ref a) d2 := y2
          have hF : ∀ o2, F a = some o2 → False := fun o2 q => by rw [u10] at q; cases q
          rw [hh] at x2; cases x2
          exact w2.apart u10 y2
        | var j =>
          rw [hh] at y2
          have hj := z j hh
          have y2 : σ[j]? = some (some (.ref a)) := y2
          rw [hh] at x2
          unfold get at x2
          rcases hr : ρ[j]? with _ | (_ | d2)
          · simp only [hr] at x2; cases x2
          · simp only [hr] at x2; cases x2
          · simp only [hr] at x2; cases x2
            obtain ⟨u, w3, w4⟩ := R.vars j d hr
            rw [y2] at w3; cases w3
            cases hmj : md μ j with
            | fz =>
              rw [hmj] at w4
              exact w2.apart u10 w4
            | an =>
              rw [hmj] at w4
              rcases w4 with w4 | ⟨a2, o2, e2, w5, w6, _⟩
              · exact w2.apart u10 w4
              · cases e2
                rcases u11 with u11 | u11
                · exact w6 u11
                · rw [u11] at w5; cases w5
            | ow =>
              have n : j ≠ i := fun n => hj (n ▸ u3)
              exact R.sep j i a n hmj u2 y2 u6
    · rw [hm]
      have hp : q ∈ ioOf pm := mem_ioOf.mpr ⟨by omega, hm⟩
      obtain ⟨j, b, o, d', u1, u2, u3, u4, u5, u6, u7, u8, u9, u10, u11⟩ := own_arg R hc ha hp
      have u1 : as[q] = .var j := Option.some.inj (ea.symm.trans u1)
      rw [y1] at u5; cases u5
      rw [u1] at x2
      have x2' := x2
      unfold get at x2'
      simp only [u7] at x2'
      cases x2'
      exact ⟨b, o, rfl, u8, u9, u10, .inl (cB_a.mpr ⟨q, hp, y1⟩)⟩
  · have ip : ∀ p, md pm p = .ow → p ∈ ioOf pm := fun p hm => mem_ioOf.mpr ⟨md_lt hm, hm⟩
    obtain ⟨i, b, o, d, u1, u2, u3, u4, u5, u6, _⟩ := own_arg R hc ha (ip p hp)
    obtain ⟨j, c, o', d', w1, w2, w3, w4, w5, w6, _⟩ := own_arg R hc ha (ip q hq)
    rw [List.getElem?_map, u5] at sp
    rw [List.getElem?_map, w5] at sq
    cases sp; cases sq
    by_cases x : i = j
    · subst x
      -- the same name twice
      have z1 := (zip_ow (n := 0) hc).1
      obtain ⟨k1, hk1, e1⟩ := List.getElem_of_mem u4
      obtain ⟨k2, hk2, e2⟩ := List.getElem_of_mem w4
      rw [List.getElem_zip] at e1 e2
      have l1 : k1 < (owIdx pm as).length := by rw [List.length_zip] at hk1; omega
      have l2 : k2 < (owIdx pm as).length := by rw [List.length_zip] at hk2; omega
      have q1 : (owIdx pm as)[k1] = i := (Prod.mk.inj e1).2
      have q2 : (owIdx pm as)[k2] = i := (Prod.mk.inj e2).2
      have kk : k1 = k2 := (List.getElem_inj nd).mp (q1.trans q2.symm)
      subst kk
      exact n ((Prod.mk.inj e1).1.symm.trans (Prod.mk.inj e2).1)
    · exact R.sep i j a x u2 w2 u6 w6
  · have := cB_p.mp (show (p.1, p.2) ∈ _ from hp)
    rw [List.getElem?_map, this.2]; rfl
  · have hp : q ∈ ioOf pm := mem_ioOf.mpr ⟨md_lt hq, hq⟩
    have hq : q < as.length := by have := (mem_ioOf.mp hp).1; omega
    obtain ⟨d', x1, x2⟩ := gv q _ (List.getElem?_eq_getElem hq)
    exact ⟨d', by rw [List.getElem?_map, x1]; rfl⟩
end
end PyD

set_option Elab.async false
set_option linter.all false
set_option maxRecDepth 100000
namespace PyD
open PySem L2 L2X PyProof.Rows

section
variable {g : G} {F H F' H' : Hp} {σ : L2.St} {ρ : Env} {B : Base} {μ pm : List Md} {vs : List V} {as : List Arg} {ds os : List D}
/-- behind a call -/
theorem leave (R : Rel g B F H μ ρ σ) (hc : chk μ pm as = true) (ha : ArgsR g F σ vs as) (hg : gets as ρ = .ok ds)
    (R' : Rel g (cB F H pm vs) F' H' pm (setAll (ds.map some) (ioOf pm) os) (vs.map some)) :
    Rel g B F' H' μ (setAll ρ (owIdx pm as) os) σ ∧ Step μ σ F H F' H' := by
  obtain ⟨hc', nd⟩ := Bool.and_eq_true_iff.mp hc
  have nd : (owIdx pm as).Nodup := of_decide_eq_true nd
  have le : Le F F' := R'.ext
  obtain ⟨z1, z2, z3, z4⟩ := zip_ow (n := 0) hc'
  obtain ⟨gl, gv⟩ := gets_at hg
  have inA : ∀ a, a ∈ (cB F H pm vs).A0 → ∃ p i o d, p ∈ ioOf pm ∧ (p, i) ∈ (ioOf pm).zip (owIdx pm as) ∧ md μ i = .ow ∧ vs[p]? = some (.ref a) ∧ σ[i]? = some (some (.ref a)) ∧ ρ[i]? = some (some d) ∧ H a = some o ∧ F a = none ∧ (a ∈ B.A0 ∨ B.H0 a = none) := fun a h => by
    obtain ⟨p, hp, e⟩ := cB_a.mp h
    obtain ⟨i, b, o, d, u1, u2, u3, u4, u5, u6, u7, u8, u9, u10, u11⟩ := own_arg R hc' ha hp
    rw [e] at u5; cases u5
    exact ⟨p, i, o, d, hp, u4, u2, e, u6, u7, u8, u10, u11⟩
  have notA : ∀ a o, B.H0 a = some o → a ∉ B.A0 → a ∉ (cB F H pm vs).A0 := fun a o h n q => by
    obtain ⟨p, i, o', d, _, _, _, _, _, _, _, _, u⟩ := inA a q
    rcases u with u | u
    · exact n u
    · rw [u] at h; cases h
  have pair : ∀ p i, (p, i) ∈ (ioOf pm).zip (owIdx pm as) → (setAll (ds.map some) (ioOf pm) os)[p]? = (setAll ρ (owIdx pm as) os)[i]? := by
    refine setAll_pair (ioOf_nodup pm) nd z1 fun p i h => ?_
    obtain ⟨q, e1, e2, e3⟩ := z2 p i h
    rw [Nat.zero_add] at e1; subst e1
    obtain ⟨d, x1, x2⟩ := gv p _ e3
    refine ⟨d, by rw [List.getElem?_map, x1]; rfl, ?_⟩
    unfold get at x2
    rcases hr : ρ[i]? with _ | (_ | d2)
    · simp only [hr] at x2; cases x2
    · simp only [hr] at x2; cases x2
    · simp only [hr] at x2; cases x2; rfl
  -- a name that was handed over
  have done : ∀ p i e, p ∈ ioOf pm → (p, i) ∈ (ioOf pm).zip (owIdx pm as) → (setAll ρ (owIdx pm as) os)[i]? = some (some e) → ∃ a o, vs[p]? = some (.ref a) ∧ H' a = some o ∧ CellR g F' a o e ∧ F' a = none := fun p i e hp hz he => by
    have hm := (mem_ioOf.mp hp).2
    rw [← pair p i hz] at he
    obtain ⟨a, o, w1, w2, w3, w4, _⟩ := R'.own_there hm he
    rw [List.getElem?_map] at w1
    cases hv : vs[p]? with
    | none => rw [hv] at w1; cases w1
    | some v => rw [hv] at w1; cases w1; exact ⟨a, o, rfl, w2, w3, w4⟩
  have zi : ∀ i ∈ owIdx pm as, ∃ p, p ∈ ioOf pm ∧ (p, i) ∈ (ioOf pm).zip (owIdx pm as) := fun i h => by
    obtain ⟨p, hp⟩ := z3 i h
    exact ⟨p, (List.of_mem_zip hp).1, hp⟩
  have old : ∀ a o, H a = some o → a ∉ (cB F H pm vs).A0 → F' a = F a := fun a o h n => R'.old a o h n
  refine ⟨⟨⟨R'.sub, R.ext.trans le, fun a o h n => R'.keep a o (R.keep a o h n) (notA a o h n), fun a o h n => by rw [old a o (R.keep a o h n) (notA a o h n)]; exact R.old a o h n, fun a h => ?_⟩, by rw [setAll_length]; exact R.lr, R.lm, fun i e he => ?_, R.sep, R.pin, fun i hi => ?_⟩, ⟨le, fun a o h n => ?_, fun a o h => ?_, fun a o h => ?_⟩⟩
  · obtain ⟨o, h⟩ := R.aa a h
    by_cases q : a ∈ (cB F H pm vs).A0
    · exact R'.aa a q
    · exact ⟨o, R'.keep a o h q⟩
  · by_cases q : i ∈ owIdx pm as
    · obtain ⟨p, hp, hz⟩ := zi i q
      obtain ⟨a, o, w1, w2, w3, w4⟩ := done p i e hp hz he
      obtain ⟨p', i', o', d', u1, u2, u3, u4, u5, u6, u7, u8, u9⟩ := inA a (cB_a.mpr ⟨p, hp, w1⟩)
      obtain ⟨j, b, o2, d2, y1, y2, y3, y4, y5, y6, _⟩ := own_arg R hc' ha hp
      rw [w1] at y5; cases y5
      have ij : i = j := by
        obtain ⟨k1, hk1, e1⟩ := List.getElem_of_mem hz
        obtain ⟨k2, hk2, e2⟩ := List.getElem_of_mem y4
        rw [List.getElem_zip] at e1 e2
        have l1 : k1 < (ioOf pm).length := by rw [List.length_zip] at hk1; omega
        have l2 : k2 < (ioOf pm).length := by rw [List.length_zip] at hk2; omega
        have kk : k1 = k2 := (List.getElem_inj (ioOf_nodup pm)).mp ((Prod.mk.inj e1).1.trans (Prod.mk.inj e2).1.symm)
        subst kk
        exact (Prod.mk.inj e1).2.symm.trans (Prod.mk.inj e2).2
      subst ij
      refine ⟨.ref a, y6, ?_⟩
      rw [y2]
      exact ⟨a, o, rfl, w2, w3, w4, u9⟩
    · rw [setAll_out _ _ _ _ q] at he
      obtain ⟨v, h1, h2⟩ := R.vars i e he
      refine ⟨v, h1, ?_⟩
      cases hm : md μ i with
      | fz => rw [hm] at h2; exact Is.mono le h2
      | an =>
        rw [hm] at h2
        rcases h2 with h2 | ⟨a, o, y1, y2, y3, y4⟩
        · exact .inl (Is.mono le h2)
        · exact .inr ⟨a, o, y1, y2, y3, y4.mono le⟩
      | ow =>
        rw [hm] at h2
        obtain ⟨a, o, rfl, y2, y3, y4, y5⟩ := h2
        have n : a ∉ (cB F H pm vs).A0 := fun q2 => by
          obtain ⟨p, j, o', d, u1, u2, u3, u4, u5, _⟩ := inA a q2
          have ne : i ≠ j := fun x => q (x ▸ (List.of_mem_zip u2).2)
          exact R.sep i j a ne hm u3 h1 u5
        exact ⟨a, o, rfl, R'.keep a o y2 n, y3.mono le, by rw [old a o y2 n]; exact y4, y5⟩
  · by_cases q : i ∈ owIdx pm as
    · obtain ⟨p, hp, hz⟩ := zi i q
      obtain ⟨d, hd⟩ := R'.there p (mem_ioOf.mp hp).2
      exact ⟨d, by rw [← pair p i hz]; exact hd⟩
    · obtain ⟨d, hd⟩ := R.there i hi
      exact ⟨d, by rw [setAll_out _ _ _ _ q]; exact hd⟩
  · refine R'.keep a o h fun q => n ?_
    obtain ⟨p, i, o', d, u1, u2, u3, u4, u5, _⟩ := inA a q
    exact ⟨i, u3, u5⟩
  · by_cases q : a ∈ (cB F H pm vs).A0
    · obtain ⟨p, i, o', d, u1, u2, u3, u4, u5, u6, u7, u8, _⟩ := inA a q
      obtain ⟨e, he⟩ := R'.there p (mem_ioOf.mp u1).2
      rw [pair p i u2] at he
      obtain ⟨b, o2, w1, w2, w3, w4⟩ := done p i e u1 u2 he
      rw [u4] at w1; cases w1
      rw [w4, u8]
    · exact old a o h q
  · by_cases q : a ∈ (cB F H pm vs).A0
    · exact R'.aa a q
    · exact ⟨o, R'.keep a o h q⟩
end

section
variable {ι : Type} {C : Ctx ι} {μ : List Md} {e : Expr} {es : List Expr} {pos p : Pos} {x : Str}
theorem dos_nil : DOs C μ [] M.nil := ⟨_, fun _ => pa_nil, fun B F H ρ σ Q R h => h.now R [] trivial⟩
theorem dos_cons {m : Env → Out (Arg × Env)} {ms : Env → Out (List Arg × Env)} (h : DO C μ e m) (k : DOs C μ es ms)
    (hs : ∀ j, starEach (e :: es) (C.X j).env = (false, eval e (C.X j).env) :: starEach es (C.X j).env := by intro _; rfl) : DOs C μ (e :: es) (M.cons m ms) := by
  obtain ⟨t, pt, s⟩ := h
  obtain ⟨u, pu, r⟩ := k
  refine ⟨_, fun j => pa_cons (pt j) (pu j) (hs j), fun B F H ρ σ Q R h => s B F H ρ σ _ R ((Post.bnd h).imp fun a ρ1 F1 H1 R1 S1 k v hv => ?_)⟩
  exact r B F1 H1 ρ1 σ _ R1 ((Post.bnd k).imp fun as ρ2 F2 H2 R2 S2 k vs hvs => k.now R2 (v :: vs) ⟨hv.mono S2.f, hvs⟩)
theorem da_nil : DA C μ [] M.nil := ⟨_, fun _ => pa_nil, fun B F H ρ σ Q R h => h.now R [] .nil⟩
theorem da_cons {m : Env → Out (D × Env)} {ms : Env → Out (List D × Env)} (h : DE C μ e m) (k : DA C μ es ms)
    (hs : ∀ j, starEach (e :: es) (C.X j).env = (false, eval e (C.X j).env) :: starEach es (C.X j).env := by intro _; rfl) : DA C μ (e :: es) (M.cons m ms) := by
  obtain ⟨t, pt, s⟩ := h
  obtain ⟨u, pu, r⟩ := k
  refine ⟨_, fun j => pa_cons (pt j) (pu j) (hs j), fun B F H ρ σ Q R h => s B F H ρ σ _ R ((Post.bnd h).imp fun a ρ1 F1 H1 R1 S1 k v hv => ?_)⟩
  exact r B F1 H1 ρ1 σ _ R1 ((Post.bnd k).imp fun as ρ2 F2 H2 R2 S2 k vs hvs => k.now R2 (v :: vs) (.cons (hv.mono S2.f) hvs))
def M.tup (m : Env → Out (List D × Env)) : Env → Out (D × Env) := M.map (fun ds => if ds.length ≤ 100000 then .ok (.tup ds) else .bad) m
def M.lst (m : Env → Out (List D × Env)) : Env → Out (D × Env) := M.map (fun ds => if ds.length ≤ 100000 then .ok (.lst ds) else .bad) m
theorem de_tup {ms : Env → Out (List D × Env)} {k} (h : DA C μ es ms) : DE C μ (.Tuple es k pos) (M.tup ms) := by
  obtain ⟨t, pt, s⟩ := h
  refine ⟨_, fun j => pe_tupX (pt j), fun B F H ρ σ Q R h => s B F H ρ σ _ R ((Post.bnd h).imp fun ds ρ1 F1 H1 R1 S1 k vs hvs => ?_)⟩
  by_cases q : ds.length ≤ 100000
  · simp only [if_pos q] at k
    exact ⟨by rw [hvs.length]; exact size100 q, Post.tup k R1 hvs⟩
  · simp only [if_neg q] at k; exact k.elim
theorem de_lst {ms : Env → Out (List D × Env)} (h : DA C μ es ms) : DE C μ (.List es pos) (M.lst ms) := by
  obtain ⟨t, pt, s⟩ := h
  refine ⟨_, fun j => pe_lst (pt j), fun B F H ρ σ Q R h => s B F H ρ σ _ R ((Post.bnd h).imp fun ds ρ1 F1 H1 R1 S1 k vs hvs => ?_)⟩
  by_cases q : ds.length ≤ 100000
  · simp only [if_pos q] at k
    exact ⟨by rw [hvs.length]; exact size100 q, fun p hp => Post.lst k R1 hp hvs⟩
  · simp only [if_neg q] at k; exact k.elim
theorem Step.fresh {σ : L2.St} {F H F' H' : Hp} {a : Addr} (s : Step μ σ F H F' H') (h : H' a = none) : H a = none := by
  cases e : H a with
  | none => rfl
  | some o => obtain ⟨o', e'⟩ := s.t a o e; rw [h] at e'; cases e'
theorem dn_lst {ms : Env → Out (List D × Env)} (h : DA C μ es ms) : DN C μ (.List es pos) (M.lst ms) := by
  obtain ⟨t, pt, s⟩ := h
  refine ⟨_, fun j => pe_lst (pt j), fun B F H ρ σ Q R h => s B F H ρ σ _ R ((Post.bnd h).imp fun ds ρ1 F1 H1 R1 S1 k vs hvs => ?_)⟩
  by_cases q : ds.length ≤ 100000
  · simp only [if_pos q] at k
    exact ⟨by rw [hvs.length]; exact size100 q, fun p hp => Post.lstN (Q := Q) (k.imp fun d _ F' H' R2 S2 k a o h1 h2 h3 h4 => k a o h1 (S1.fresh h2) h3 h4) R1 hp hvs⟩
  · simp only [if_neg q] at k; exact k.elim
/-- a new object, shared at once -/
theorem Post.shared {B : Base} {F H : Hp} {ρ : Env} {σ : L2.St} {Q : VK} (R : Rel C.g B F H μ ρ σ) {o : Out (D × Env)} (h : Post C B F H μ σ o (fun d _ F' H' => ∀ v, Is C.g F' v d → Q v H')) :
    Post C B F H μ σ o (fun d _ F' H' => ∀ a o, H' a = some o → H a = none → F' a = none → CellR C.g F' a o d → Q (.ref a) H') := by
  match o, h with
  | .ok (d, ρ1), h =>
    intro F1 H1 R1 S1 a o h1 h2 h3 h4
    have le : Le F1 (upd F1 a o) := Le.upd h3
    have h0 := (R.toBx.fresh h2)
    refine h (upd F1 a o) H1 ⟨⟨fun b u e => ?_, R1.ext.trans le, R1.keep, fun b u e n => ?_, R1.aa⟩, R1.lr, R1.lm, fun i d' e => ?_, R1.sep, R1.pin, R1.there⟩ ⟨S1.f.trans le, S1.h, fun b u e => ?_, S1.t⟩ (.ref a) ((h4.mono le).is upd_same)
    · by_cases x : b = a
      · subst x; rw [upd_same] at e; cases e; exact h1
      · rw [upd_ne x] at e; exact R1.sub b u e
    · have x : b ≠ a := fun x => by subst x; rw [h0.2.1] at e; cases e
      rw [upd_ne x]; exact R1.old b u e n
    · obtain ⟨v, y1, y2⟩ := R1.vars i d' e
      refine ⟨v, y1, ?_⟩
      cases hm : md μ i with
      | fz => rw [hm] at y2; exact Is.mono le y2
      | an =>
        rw [hm] at y2
        rcases y2 with y2 | ⟨b, u, z1, z2, z3, z4⟩
        · exact .inl (Is.mono le y2)
        · exact .inr ⟨b, u, z1, z2, z3, z4.mono le⟩
      | ow =>
        rw [hm] at y2
        obtain ⟨b, u, rfl, z1, z2, z3, z4⟩ := y2
        have n : b ≠ a := fun n => by
          subst n
          exact R.new_notOwn h2 ⟨i, hm, y1⟩
        exact ⟨b, u, rfl, z1, z2.mono le, by rw [upd_ne n]; exact z3, z4⟩
    · have x : b ≠ a := fun x => by subst x; rw [h2] at e; cases e
      rw [upd_ne x]; exact S1.n b u e
  | .exc x, h => exact h
  | .bad, h => exact h
theorem dn_de {m : Env → Out (D × Env)} (h : DN C μ e m) : DE C μ e m := by
  obtain ⟨t, pt, s⟩ := h
  exact ⟨t, pt, fun B F H ρ σ Q R h => s B F H ρ σ Q R (Post.shared R h)⟩

/-! ### calls -/
theorem call_core {pm : List Md} {rm : Md} {f : List D → Out (D × List D)} {k : Nat} (ok : C.Ok) (hc : Cal C.g k x pm rm f) (hk : k ≤ C.lv) (hg : ∀ j, Gl (C.X j) x) {ms : Env → Out (List Arg × Env)} (ha : DOs C μ (e :: es) ms)
    (hdb : (x == ("__debug__" : Str)) = false := by decide) (he : ∀ j, starEach (e :: es) (C.X j).env = (false, eval e (C.X j).env) :: starEach es (C.X j).env := by intro _; rfl) (hpl : ∀ j, (backTo pos (starEach es (C.X j).env)).any (·.1) = false := by intro _; rfl) :
    ∃ t : TE, (∀ j, PE (C.X j) (.Call (.Name x p) (e :: es) [] pos) t) ∧ ∀ B F H ρ σ Q, Rel C.g B F H μ ρ σ → Post C B F H μ σ (M.call μ pm f ms ρ) (fun d _ F' H' => ∀ v B', B'.H0 = B'.H0 → (∀ a, B'.H0 a = none → H a = none) → ResR C.g B' F' H' rm v d → Q v H') → t σ H Q := by
  obtain ⟨a, fd, ps, F0, hm, hkp, hb⟩ := hc.ex
  obtain ⟨t, pt, s⟩ := ha
  refine ⟨tCallS (spOf C.g pm rm f) (WE C.W) t, fun j => ?_, fun B F H ρ σ Q R h => ?_⟩
  · refine pe_callS (CX := L2.CX C.g.P C.g.w) (k := C.lv) (f := a) (fd := fd) (ps := ps) ?_ (ok.room j) (hg j) ?_ ?_ ?_ ?_ (pt j) hdb (he j) (hpl j)
    · rw [ok.hP j, ok.hw j, ok.hK j, ok.hm j, ok.hb j]; exact F0.mono hk
    · rw [ok.hm j]; exact hm
    · rw [ok.hK j]; exact hkp
    · rw [ok.hK j]; exact hb
    · intro σ
      have := passAt (ok.tk j) σ
      rw [ok.hP j, ok.hw j] at this
      exact this
  · refine s B F H ρ σ _ R ((Post.bnd h).imp fun as ρ1 F1 H1 R1 S1 k vs hvs => ?_)
    have k : Post C B F1 H1 μ σ (if chk μ pm as = true then (gets as ρ1).bind fun ds => (f ds).bind fun r => .ok (r.1, setAll ρ1 (owIdx pm as) r.2) else .bad) _ := k
    by_cases q : chk μ pm as = true
    · rw [if_pos q] at k
      cases eg : gets as ρ1 with
      | exc z => exact absurd eg (gets_ne _ _ _)
      | bad => rw [eg] at k; exact k.elim
      | ok ds =>
        rw [eg] at k
        refine ⟨F1, ds, cB F1 H1 pm vs, rfl, rfl, cB_ok, fun i hi => ?_, enter R1 q hvs eg, ?_⟩
        · obtain ⟨j, b, o, d, _, _, _, _, y, _⟩ := own_arg R1 (Bool.and_eq_true_iff.mp q).1 hvs hi
          exact ⟨b, cB_p.mpr ⟨hi, y⟩⟩
        · cases ef : f ds with
          | bad => rw [Out.bind_ok, ef] at k; exact k.elim
          | exc z =>
            rw [Out.bind_ok, ef] at k
            refine fun cls d F' H' b hx => k cls d F' H' ⟨b.sub, R1.ext.trans b.ext, fun a o h n => b.keep a o (R1.keep a o h n) ?_, fun a o h n => ?_, fun a h => ?_⟩ hx
            · intro hA
              obtain ⟨pp, hp, e'⟩ := cB_a.mp hA
              obtain ⟨i, b', o', d', u1, u2, u3, u4, u5, u6, u7, u8, u9, u10, u11⟩ := own_arg R1 (Bool.and_eq_true_iff.mp q).1 hvs hp
              rw [e'] at u5; cases u5
              rcases u11 with u11 | u11
              · exact n u11
              · rw [u11] at h; cases h
            · rw [b.old a o (R1.keep a o h n) ?_]
              · exact R1.old a o h n
              · intro hA
                obtain ⟨pp, hp, e'⟩ := cB_a.mp hA
                obtain ⟨i, b', o', d', u1, u2, u3, u4, u5, u6, u7, u8, u9, u10, u11⟩ := own_arg R1 (Bool.and_eq_true_iff.mp q).1 hvs hp
                rw [e'] at u5; cases u5
                rcases u11 with u11 | u11
                · exact n u11
                · rw [u11] at h; cases h
            · obtain ⟨o, h'⟩ := R1.aa a h
              by_cases hA : a ∈ (cB F1 H1 pm vs).A0
              · exact b.aa a hA
              · exact ⟨o, b.keep a o h' hA⟩
          | ok r =>
            obtain ⟨d, os⟩ := r
            rw [Out.bind_ok, ef] at k
            intro v F' H' R' hr
            obtain ⟨R2, S2⟩ := leave R1 q hvs eg R'
            exact k F' H' R2 S2 v (cB F1 H1 pm vs) rfl (fun a h => S1.fresh h) hr
    · rw [if_neg q] at k; exact k.elim
theorem de_call {pm : List Md} {f : List D → Out (D × List D)} {k : Nat} (ok : C.Ok) (hc : Cal C.g k x pm .fz f) (hk : k ≤ C.lv) (hg : ∀ j, Gl (C.X j) x) {ms : Env → Out (List Arg × Env)} (ha : DOs C μ (e :: es) ms)
    (hdb : (x == ("__debug__" : Str)) = false := by decide) (he : ∀ j, starEach (e :: es) (C.X j).env = (false, eval e (C.X j).env) :: starEach es (C.X j).env := by intro _; rfl) (hpl : ∀ j, (backTo pos (starEach es (C.X j).env)).any (·.1) = false := by intro _; rfl) :
    DE C μ (.Call (.Name x p) (e :: es) [] pos) (M.call μ pm f ms) := by
  obtain ⟨t, pt, s⟩ := call_core (p := p) ok hc hk hg ha hdb he hpl
  exact ⟨t, pt, fun B F H ρ σ Q R h => s B F H ρ σ Q R (h.imp fun d ρ1 F1 H1 R1 S1 k v B' _ _ hr => k v hr)⟩
theorem dn_call {pm : List Md} {f : List D → Out (D × List D)} {k : Nat} (ok : C.Ok) (hc : Cal C.g k x pm .ow f) (hk : k ≤ C.lv) (hg : ∀ j, Gl (C.X j) x) {ms : Env → Out (List Arg × Env)} (ha : DOs C μ (e :: es) ms)
    (hdb : (x == ("__debug__" : Str)) = false := by decide) (he : ∀ j, starEach (e :: es) (C.X j).env = (false, eval e (C.X j).env) :: starEach es (C.X j).env := by intro _; rfl) (hpl : ∀ j, (backTo pos (starEach es (C.X j).env)).any (·.1) = false := by intro _; rfl) :
    DN C μ (.Call (.Name x p) (e :: es) [] pos) (M.call μ pm f ms) := by
  obtain ⟨t, pt, s⟩ := call_core (p := p) ok hc hk hg ha hdb he hpl
  refine ⟨t, pt, fun B F H ρ σ Q R h => s B F H ρ σ Q R (h.imp fun d ρ1 F1 H1 R1 S1 k v B' _ hn hr => ?_)⟩
  obtain ⟨a, o, rfl, h1, h2, h3, h4⟩ := hr
  exact k a o h1 (hn a h3) h2 h4
end
end PyD

set_option Elab.async false
set_option linter.all false
set_option maxRecDepth 100000
namespace PyD
open PySem L2 L2X PyProof.Rows

/-! ### what is walked -/
section
variable {ι : Type} {C : Ctx ι} {μ : List Md} {e tg : Expr} {es : List Expr} {pos p : Pos} {x : Str} {g : G} {B : Base} {F H : Hp}
/-- an operand that stands still in a loop -/
def RdB (g : G) (B : Base) (F : Hp) (v : V) (d : D) : Prop := Is g F v d ∨ ∃ a o, v = .ref a ∧ B.H0 a = some o ∧ a ∉ B.A0 ∧ CellR g F a o d
/-- items of a list, a tuple, the script -/
def walked : D → Out (List D)
  | .lst ds => .ok ds
  | .tup ds => .ok ds
  | .scr ns => .ok (ns.map D.int)
  | _ => .bad
theorem walked_ne (d : D) (x : Exc) : walked d ≠ .exc x := by cases d <;> (intro h; cases h)
theorem RdB.at {v : V} {d : D} {ds : List D} (h : RdB g B F v d) (e : walked d = .ok ds) : ∃ a vs, v = .ref a ∧ IsAll g F vs ds ∧
    ((∀ F1 H1, Le F F1 → Bx B F1 H1 → SqL g.K H1 a vs) ∨ (∀ F1 H1, Le F F1 → Bx B F1 H1 → SqT g.K H1 a vs)) := by
  rcases h with h | ⟨a, o, rfl, h0, hn, c⟩
  · cases h with
    | lst r t => cases e; exact ⟨_, _, rfl, t, .inl fun F1 H1 l b => SqL.of (b.sub _ _ (l _ _ r))⟩
    | tup r t => cases e; exact ⟨_, _, rfl, t, .inr fun F1 H1 l b => b.sub.sqT (l.sqT r.sq)⟩
    | scr r => cases e; exact ⟨_, _, rfl, IsAll.ints _, .inl fun F1 H1 l b => b.sub.sqL (l.sqL r)⟩
    | _ => cases e
  · cases c with
    | lst t => cases e; exact ⟨_, _, rfl, t, .inl fun F1 H1 l b => SqL.of (b.keep _ _ h0 hn)⟩
    | dic _ _ _ => cases e
theorem iter_list {a : Addr} {vs : List V} {ds : List D} (t : IsAll g F vs ds) (h : ∀ F1 H1, Le F F1 → Bx B F1 H1 → SqL g.K H1 a vs) : Iter g B (Itl g.K a) F ds where
  go := fun F1 H1 l b i d e => by
    obtain ⟨v, hv, hi⟩ := t.get e
    refine ⟨⟨vs, v, h F1 H1 l b, hv⟩, fun x H2 hy => ?_⟩
    obtain ⟨rfl, hy⟩ := hy
    have := hy vs (h F1 _ l b)
    rw [hv] at this; cases this
    exact ⟨F1, hi.mono l, .inl ⟨rfl, rfl⟩⟩
  stop := fun F1 H1 l b => ⟨vs, h F1 H1 l b, by rw [t.length]; exact Nat.le_refl _⟩
theorem iter_tup {a : Addr} {vs : List V} {ds : List D} (t : IsAll g F vs ds) (h : ∀ F1 H1, Le F F1 → Bx B F1 H1 → SqT g.K H1 a vs) : Iter g B (Itt g.K a) F ds where
  go := fun F1 H1 l b i d e => by
    obtain ⟨v, hv, hi⟩ := t.get e
    refine ⟨⟨vs, v, h F1 H1 l b, hv⟩, fun x H2 hy => ?_⟩
    obtain ⟨rfl, hy⟩ := hy
    have := hy vs (h F1 _ l b)
    rw [hv] at this; cases this
    exact ⟨F1, hi.mono l, .inl ⟨rfl, rfl⟩⟩
  stop := fun F1 H1 l b => ⟨vs, h F1 H1 l b, by rw [t.length]; exact Nat.le_refl _⟩
/-- a list or a tuple is walked -/
def iSeq (K : PySem.W.Frag) (tl : TE) : TI := fun σ H R => tl σ H fun x H1 => ∃ a, x = .ref a ∧ (((∃ xs, SqL K H1 a xs) ∧ R (Itl K a) H1) ∨ ((∃ xs, SqT K H1 a xs) ∧ R (Itt K a) H1))
theorem pi_seq {X : Cx} {l : Expr} {tl : TE} (hl : PE X l tl) : PI X tg l (iSeq X.K tl) := by
  refine ⟨fun pins s σ H R I h => ?_⟩
  refine thn (hl.run pins s σ H _ I h) fun v s1 ⟨x, H1, I1, r1, q1⟩ => ?_
  obtain ⟨a, e, q⟩ := q1
  subst e
  cases r1
  rcases q with ⟨⟨xs, hq⟩, q⟩ | ⟨⟨xs, hq⟩, q⟩
  · obtain ⟨its, rv, p, hz⟩ := I1.list hq
    refine wpAny_pyIter_list p.isList ?_
    refine ⟨s1.heap.objs.size, [s1.heap.objs.size], _, _, H1, rfl, I1.kept (t' := s1.toks) fun b o e => Heap.get?_push_of_some _ e, turn_list a _, ⟨_, Heap.get?_push_size _ rfl, rfl, rfl⟩, fun b hb => ?_, q⟩
    obtain rfl := List.mem_singleton.mp hb
    exact I1.fpOk (Nat.le_refl _) (I1.hok.fresh (Nat.le_refl _))
  · obtain ⟨its, rv, p, hz⟩ := I1.tuple hq
    refine wpAny_pyIter_tuple (show s1.heap.IsTuple a its.toArray from p) ?_
    refine ⟨s1.heap.objs.size, [s1.heap.objs.size], _, _, H1, rfl, I1.kept (t' := s1.toks) fun b o e => Heap.get?_push_of_some _ e, turn_tuple a _, ⟨_, Heap.get?_push_size _ rfl, rfl, rfl⟩, fun b hb => ?_, q⟩
    obtain rfl := List.mem_singleton.mp hb
    exact I1.fpOk (Nat.le_refl _) (I1.hok.fresh (Nat.le_refl _))
theorem iSeq_of {tl : TE} {σ : L2.St} {R' : It → Hp → Prop} {v : V} {d : D} {ds : List D} (b : Bx B F H) (h : RdB g B F v d) (e : walked d = .ok ds) (k : ∀ J, Iter g B J F ds → R' J H) :
    ∃ a, v = .ref a ∧ (((∃ xs, SqL g.K H a xs) ∧ R' (Itl g.K a) H) ∨ ((∃ xs, SqT g.K H a xs) ∧ R' (Itt g.K a) H)) := by
  obtain ⟨a, vs, rfl, t, q | q⟩ := h.at e
  · exact ⟨a, rfl, .inl ⟨⟨vs, q F H (Le.refl _) b⟩, k _ (iter_list t q)⟩⟩
  · exact ⟨a, rfl, .inr ⟨⟨vs, q F H (Le.refl _) b⟩, k _ (iter_tup t q)⟩⟩
def M.iv (i : Nat) : Env → Out (List D × Env) := fun ρ => match ρ[i]? with
  | some (some d) => (walked d).bind fun ds => .ok (ds, ρ)
  | _ => .bad
theorem Rel.rdB {μ : List Md} {ρ : Env} {σ : L2.St} {i : Nat} {d : D} {v : V} (R : Rel g B F H μ ρ σ) (hm : md μ i ≠ .ow) (hr : ρ[i]? = some (some d)) (hs : σ[i]? = some (some v)) : RdB g B F v d := by
  obtain ⟨u, h1, h2⟩ := R.vars i d hr
  rw [hs] at h1; cases h1
  cases q : md μ i with
  | fz => rw [q] at h2; exact .inl h2
  | an => rw [q] at h2; exact h2
  | ow => exact absurd q hm
/-- for .. in a name -/
theorem di_var (ok : C.Ok) (i : Nat) (hx : C.vs[i]? = some (some x)) (hm : md μ i ≠ .ow) : DI C μ tg (.Name x pos) (M.iv i) := by
  refine ⟨iSeq C.g.K (tVar i), fun j => ?_, fun B F H ρ σ R' R h => ?_⟩
  · obtain ⟨h1, h2, h3, h4⟩ := ok.vis j i x hx
    rw [← ok.hK j]
    exact pi_seq (pe_var (by rw [ok.hN j]; exact h1) h2 h3 h4)
  · unfold M.iv at h
    rcases hr : ρ[i]? with _ | (_ | d)
    · simp only [hr] at h; exact h.elim
    · simp only [hr] at h; exact h.elim
    · simp only [hr] at h
      obtain ⟨v, h1, h2⟩ := R.vars i d hr
      cases hw : walked d with
      | exc z => exact absurd hw (walked_ne _ _)
      | bad => rw [hw] at h; exact h.elim
      | ok ds =>
        rw [hw] at h
        exact ⟨v, h1, iSeq_of (tl := tVar i) (σ := σ) R.toBx (R.rdB hm hr h1) hw fun J hJ => h.now R J hJ⟩
/-- for .. in an expression -/
theorem di_val (ok : C.Ok) {m : Env → Out (D × Env)} (h : DE C μ e m) : DI C μ tg e (M.map walked m) := by
  obtain ⟨t, pt, s⟩ := h
  refine ⟨iSeq C.g.K t, fun j => by rw [← ok.hK j]; exact pi_seq (pt j), fun B F H ρ σ R' R h => s B F H ρ σ _ R ((Post.bnd h).imp fun d ρ1 F1 H1 R1 S1 k v hv => ?_)⟩
  cases hw : walked d with
  | exc z => exact absurd hw (walked_ne _ _)
  | bad => simp only [hw] at k; exact k.elim
  | ok ds =>
    simp only [hw] at k
    exact iSeq_of (tl := t) (σ := σ) R1.toBx (.inl hv) hw fun J hJ => k.now R1 J hJ
/-- range(n), range(a, b) -/
def rng1 (ds : List D) : Out (List D) := match ds with
  | [.int n] => if -(2 ^ 62) ≤ n ∧ n < 2 ^ 62 then .ok ((List.range n.toNat).map fun (i : Nat) => D.int i) else .bad
  | _ => .bad
def rng2 (ds : List D) : Out (List D) := match ds with
  | [.int a, .int b] => if -(2 ^ 62) ≤ a ∧ a < 2 ^ 62 ∧ -(2 ^ 62) ≤ b ∧ b < 2 ^ 62 then .ok ((List.range (b - a).toNat).map fun (i : Nat) => D.int (a + i)) else .bad
  | _ => .bad
theorem iter_range {lo : Int} {n : Nat} {f : Nat → D} (hf : ∀ i, f i = D.int (lo + (i : Nat))) : Iter g B (Itr lo n) F ((List.range n).map f) where
  go := fun F1 H1 l b i d e => by
    rw [List.getElem?_map] at e
    have hi : i < n := by
      by_cases q : i < n
      · exact q
      · rw [List.getElem?_eq_none (by simpa using q)] at e; cases e
    rw [List.getElem?_range hi] at e
    cases e
    refine ⟨hi, fun x H2 hy => ?_⟩
    obtain ⟨rfl, rfl⟩ := hy
    exact ⟨F1, by rw [hf]; exact .int _, .inl ⟨rfl, rfl⟩⟩
  stop := fun F1 H1 l b => by show n ≤ _; rw [List.length_map, List.length_range]; exact Nat.le_refl _
theorem di_range1 (ok : C.Ok) {ms : Env → Out (List D × Env)} (hg : ∀ j, Gl (C.X j) "range") (hm : C.g.mg "range" = none) (h : DA C μ [e] ms) (hs : ∀ j, starEach [e] (C.X j).env = [(false, eval e (C.X j).env)] := by intro _; rfl) :
    DI C μ tg (.Call (.Name "range" p) [e] [] pos) (M.map rng1 ms) := by
  obtain ⟨t, pt, s⟩ := h
  refine ⟨_, fun j => pi_range1 (hg j) (by rw [ok.hm j]; exact hm) (pt j) (hs j), fun B F H ρ σ R' R h => s B F H ρ σ _ R ((Post.bnd h).imp fun ds ρ1 F1 H1 R1 S1 k vs hv => ?_)⟩
  cases hv with
  | nil => exact k.elim
  | cons a b =>
    cases b with
    | cons b c => cases a <;> exact k.elim
    | nil =>
      cases a with
      | int n =>
        by_cases q : -(2 ^ 62) ≤ n ∧ n < 2 ^ 62
        · simp only [rng1, if_pos q] at k
          exact ⟨n, rfl, q.1, q.2, k.now R1 _ (iter_range (lo := 0) fun i => by rw [Int.zero_add])⟩
        · simp only [rng1, if_neg q] at k; exact k.elim
      | _ => exact k.elim
theorem di_range2 (ok : C.Ok) {e2 : Expr} {ms : Env → Out (List D × Env)} (hg : ∀ j, Gl (C.X j) "range") (hm : C.g.mg "range" = none) (h : DA C μ [e, e2] ms)
    (hs : ∀ j, starEach [e, e2] (C.X j).env = [(false, eval e (C.X j).env), (false, eval e2 (C.X j).env)] := by intro _; rfl) (hs2 : ∀ j, starEach [e2] (C.X j).env = [(false, eval e2 (C.X j).env)] := by intro _; rfl) :
    DI C μ tg (.Call (.Name "range" p) [e, e2] [] pos) (M.map rng2 ms) := by
  obtain ⟨t, pt, s⟩ := h
  refine ⟨_, fun j => pi_range2 (hg j) (by rw [ok.hm j]; exact hm) (pt j) (hs j) (hs2 j), fun B F H ρ σ R' R h => s B F H ρ σ _ R ((Post.bnd h).imp fun ds ρ1 F1 H1 R1 S1 k vs hv => ?_)⟩
  have k : Post C B F1 H1 μ σ ((rng2 ds).bind fun d => .ok (d, ρ1)) _ := k
  obtain ⟨a, b, rfl⟩ : ∃ a b, ds = [.int a, .int b] := by
    unfold rng2 at k
    split at k
    · exact ⟨_, _, rfl⟩
    · exact k.elim
  cases hv with
  | cons h1 h2 =>
    cases h2 with
    | cons h2 h3 =>
      cases h3; cases h1; cases h2
      by_cases q : -(2 ^ 62) ≤ a ∧ a < 2 ^ 62 ∧ -(2 ^ 62) ≤ b ∧ b < 2 ^ 62
      · simp only [rng2, if_pos q] at k
        exact ⟨a, b, rfl, q, k.now R1 _ (iter_range (lo := a) fun i => rfl)⟩
      · simp only [rng2, if_neg q] at k; exact k.elim

/-! ### list comprehensions -/
def rl (scope sc : Scope) : Scope :=
  { scope with names := scope.names.map fun (n, k) => if (k == .free && sc.kind == .function && sc.names.lookup n == some .cell) then (n, .cell) else (n, k) }
theorem rl_eq (scope : Scope) (env : PySem.Env) : relabel scope env = rl scope env.scope := rfl
/-- the contexts of the block -/
abbrev cctx (C : Ctx ι) (scope : Scope) (vs as : List (Option Str)) : Ctx (ι × Shared × Hp × Addr × List (Str × Addr) × List Addr) where
  X := fun j => (C.X j.1).blk j.2.1 j.2.2.1 scope (compEnvC scope j.2.2.2.2.1 j.2.2.2.1 (C.X j.1).env) j.2.2.2.2.2
  g := C.g
  N := C.N
  vs := vs
  as := as
  W := fun _ _ _ _ => False
  lv := C.lv
  io := []
  sc := rl scope C.sc
structure BlkV (C : Ctx ι) (scope : Scope) (vs as : List (Option Str)) : Prop where
  vis : ∀ (j : ι) (i : Nat) (x : Str), vs[i]? = some (some x) → C.N[i]? = some x ∧ Vis (relabel scope (C.X j).env) x ∧ (x == ("__debug__" : Str)) = false ∧ (x == ("__classdict__" : Str)) = false
  asg : ∀ (j : ι) (i : Nat) (x : Str), as[i]? = some (some x) → C.N[i]? = some x ∧ Loc (relabel scope (C.X j).env) x ∧ ((scope.names.lookup x == some .cell) = true ∨ (relabel scope (C.X j).env).names.lookup x = some .local)
def visB (sc : Scope) : List (Option Str) → List Str → Bool
  | [], _ => true
  | none :: vs, _ :: N => visB sc vs N
  | some y :: vs, x :: N => (y == x) && ((match sc.names.lookup y with
    | some .local => true
    | some .cell => true
    | some .free => true
    | _ => false) && !(y == ("__debug__" : Str)) && !(y == ("__classdict__" : Str))) && visB sc vs N
  | _ :: _, [] => false
theorem visB_at {sc : Scope} : ∀ {vs : List (Option Str)} {N : List Str}, visB sc vs N = true → ∀ {i : Nat} {x : Str}, vs[i]? = some (some x) → N[i]? = some x ∧ Vis sc x ∧ (x == ("__debug__" : Str)) = false ∧ (x == ("__classdict__" : Str)) = false
  | [], _, _, i, x, hx => by simp at hx
  | none :: vs, _ :: N, h, 0, x, hx => by simp at hx
  | none :: vs, _ :: N, h, i + 1, x, hx => by
    unfold visB at h
    rw [List.getElem?_cons_succ] at hx ⊢
    exact visB_at h hx
  | some y :: vs, z :: N, h, 0, x, hx => by
    unfold visB at h
    simp only [List.getElem?_cons_zero, Option.some.injEq] at hx
    subst hx
    rw [Bool.and_eq_true, Bool.and_eq_true, Bool.and_eq_true, Bool.and_eq_true] at h
    obtain ⟨⟨h0, ⟨h1, h2⟩, h3⟩, _⟩ := h
    refine ⟨by rw [List.getElem?_cons_zero, eq_of_beq h0], ?_, by simpa using h2, by simpa using h3⟩
    cases e : sc.names.lookup y with
    | none => rw [e] at h1; cases h1
    | some k =>
      rw [e] at h1
      cases k <;> first | exact .inl e | exact .inr (.inl e) | exact .inr (.inr e) | cases h1
  | some y :: vs, z :: N, h, i + 1, x, hx => by
    unfold visB at h
    rw [Bool.and_eq_true] at h
    rw [List.getElem?_cons_succ] at hx ⊢
    exact visB_at h.2 hx
  | none :: _, [], h, _, _, _ => by unfold visB at h; cases h
  | some _ :: _, [], h, _, _, _ => by unfold visB at h; cases h
def asgB (scope sc : Scope) : List (Option Str) → List Str → Bool
  | [], _ => true
  | none :: vs, _ :: N => asgB scope sc vs N
  | some y :: vs, x :: N => (y == x) && (match sc.names.lookup y with
    | some .local => true
    | some .cell => scope.names.lookup y == some .cell
    | _ => false) && asgB scope sc vs N
  | _ :: _, [] => false
theorem asgB_at {scope sc : Scope} : ∀ {vs : List (Option Str)} {N : List Str}, asgB scope sc vs N = true → ∀ {i : Nat} {x : Str}, vs[i]? = some (some x) → N[i]? = some x ∧ Loc sc x ∧ ((scope.names.lookup x == some .cell) = true ∨ sc.names.lookup x = some .local)
  | [], _, _, i, x, hx => by simp at hx
  | none :: vs, _ :: N, h, 0, x, hx => by simp at hx
  | none :: vs, _ :: N, h, i + 1, x, hx => by
    unfold asgB at h
    rw [List.getElem?_cons_succ] at hx ⊢
    exact asgB_at h hx
  | some y :: vs, z :: N, h, 0, x, hx => by
    unfold asgB at h
    simp only [List.getElem?_cons_zero, Option.some.injEq] at hx
    subst hx
    rw [Bool.and_eq_true, Bool.and_eq_true] at h
    obtain ⟨⟨h0, h1⟩, _⟩ := h
    refine ⟨by rw [List.getElem?_cons_zero, eq_of_beq h0], ?_⟩
    cases e : sc.names.lookup y with
    | none => rw [e] at h1; cases h1
    | some k =>
      rw [e] at h1
      cases k <;> first | exact ⟨.inl e, .inr rfl⟩ | exact ⟨.inr e, .inl h1⟩ | cases h1
  | some y :: vs, z :: N, h, i + 1, x, hx => by
    unfold asgB at h
    rw [Bool.and_eq_true] at h
    rw [List.getElem?_cons_succ] at hx ⊢
    exact asgB_at h.2 hx
  | none :: _, [], h, _, _, _ => by unfold asgB at h; cases h
  | some _ :: _, [], h, _, _, _ => by unfold asgB at h; cases h
theorem blkV_by (ok : C.Ok) {scope : Scope} {vs as : List (Option Str)} (h : visB (rl scope C.sc) vs C.N = true) (k : asgB scope (rl scope C.sc) as C.N = true) : BlkV C scope vs as where
  vis := fun j i x e => by rw [rl_eq, ok.hsc j]; exact visB_at h e
  asg := fun j i x e => by rw [rl_eq, ok.hsc j]; exact asgB_at k e
theorem cctx_ok (ok : C.Ok) {scope : Scope} {vs as : List (Option Str)} (h : BlkV C scope vs as) : (cctx C scope vs as).Ok where
  hP := fun j => ok.hP j.1
  hw := fun j => ok.hw j.1
  hK := fun j => ok.hK j.1
  hm := fun j => ok.hm j.1
  hb := fun j => ok.hb j.1
  calm := fun j => ok.calm j.1
  hN := fun j => ok.hN j.1
  nd := ok.nd
  vis := fun j i x e => h.vis j.1 i x e
  asg := fun j i x e => h.asg j.1 i x e
  tk := fun j => takes0
  po := fun j => PassesOwn.never
  room := fun j => ok.room j.1
  hsc := fun j => by show rl scope (C.X j.1).env.scope = rl scope C.sc; rw [ok.hsc j.1]

namespace M
def wipeE (ρ : Env) : List Nat → Env
  | [] => ρ
  | v :: vs => (wipeE ρ vs).set v none
/-- the names of the block, back as they were -/
def back (ρ₀ : Env) (ρ : Env) : List Nat → Env
  | [] => ρ
  | v :: vs => (back ρ₀ ρ vs).set v ((ρ₀[v]?).getD none)
def lcAux (tg : D → Env → Out Env) (c : Env → Out (Bool × Env)) (el : Env → Out (D × Env)) (own : List Nat) : List D → List D → Env → Out (List D × Env)
  | [], acc, ρ => .ok (acc, ρ)
  | d :: ds, acc, ρ => match tg d ρ with
    | .ok ρ1 => (match c ρ1 with
      | .ok (true, ρ2) => (match el ρ2 with
        | .ok (y, ρ3) => if acc.length < 100000 then lcAux tg c el own ds (acc ++ [y]) (wipeE ρ3 own) else .bad
        | _ => .bad)
      | .ok (false, ρ2) => lcAux tg c el own ds acc (wipeE ρ2 own)
      | _ => .bad)
    | _ => .bad
def lc (it : Env → Out (List D × Env)) (tg : D → Env → Out Env) (c : Env → Out (Bool × Env)) (el : Env → Out (D × Env)) (own : List Nat) : Env → Out (D × Env) := fun ρ =>
  (it ρ).bind fun p => (lcAux tg c el own p.1 [] (wipeE p.2 own)).bind fun q => .ok (.lst q.1, back p.2 q.2 own)
def yes : Env → Out (Bool × Env) := fun ρ => .ok (true, ρ)
end M

theorem wipe_get {σ : L2.St} {j : Nat} : ∀ {vs : List Nat}, (wipe σ vs)[j]? = if j ∈ vs ∧ j < σ.length then some none else σ[j]?
  | [] => by simp [wipe]
  | v :: vs => by
    unfold wipe
    have ih := @wipe_get σ j vs
    have hl := wipe_length σ vs
    by_cases q : j = v
    · subst q
      by_cases hj : j < σ.length
      · rw [List.getElem?_set_self (by rw [hl]; exact hj), if_pos ⟨List.mem_cons_self, hj⟩]
      · rw [if_neg (fun h => hj h.2), List.getElem?_eq_none (by rw [List.length_set, hl]; omega), List.getElem?_eq_none (by omega)]
    · rw [List.getElem?_set_ne (Ne.symm q), ih]
      have e : j ∈ v :: vs ↔ j ∈ vs := by rw [List.mem_cons]; exact ⟨fun h => h.resolve_left q, .inr⟩
      simp only [e]
theorem wipeE_length (ρ : Env) : ∀ vs : List Nat, (M.wipeE ρ vs).length = ρ.length
  | [] => rfl
  | v :: vs => by unfold M.wipeE; rw [List.length_set, wipeE_length ρ vs]
theorem wipeE_get {ρ : Env} {j : Nat} : ∀ {vs : List Nat}, (M.wipeE ρ vs)[j]? = if j ∈ vs ∧ j < ρ.length then some none else ρ[j]?
  | [] => by simp [M.wipeE]
  | v :: vs => by
    unfold M.wipeE
    have ih := @wipeE_get ρ j vs
    have hl := wipeE_length ρ vs
    by_cases q : j = v
    · subst q
      by_cases hj : j < ρ.length
      · rw [List.getElem?_set_self (by rw [hl]; exact hj), if_pos ⟨List.mem_cons_self, hj⟩]
      · rw [if_neg (fun h => hj h.2), List.getElem?_eq_none (by rw [List.length_set, hl]; omega), List.getElem?_eq_none (by omega)]
    · rw [List.getElem?_set_ne (Ne.symm q), ih]
      have e : j ∈ v :: vs ↔ j ∈ vs := by rw [List.mem_cons]; exact ⟨fun h => h.resolve_left q, .inr⟩
      simp only [e]
theorem back_length (ρ₀ ρ : Env) : ∀ vs : List Nat, (M.back ρ₀ ρ vs).length = ρ.length
  | [] => rfl
  | v :: vs => by unfold M.back; rw [List.length_set, back_length ρ₀ ρ vs]
theorem back_get {ρ₀ ρ : Env} (hl : ρ₀.length = ρ.length) {j : Nat} : ∀ {vs : List Nat}, (M.back ρ₀ ρ vs)[j]? = if j ∈ vs then ρ₀[j]? else ρ[j]?
  | [] => by simp [M.back]
  | v :: vs => by
    unfold M.back
    have ih := @back_get ρ₀ ρ hl j vs
    have hb := back_length ρ₀ ρ vs
    by_cases q : j = v
    · subst q
      rw [if_pos List.mem_cons_self]
      by_cases hj : j < ρ.length
      · rw [List.getElem?_set_self (by rw [hb]; exact hj), List.getElem?_eq_getElem (by rw [hl]; exact hj)]; rfl
      · rw [List.getElem?_eq_none (by rw [List.length_set, hb]; omega), List.getElem?_eq_none (by omega)]
    · rw [List.getElem?_set_ne (Ne.symm q), ih]
      have e : j ∈ v :: vs ↔ j ∈ vs := by rw [List.mem_cons]; exact ⟨fun h => h.resolve_left q, .inr⟩
      simp only [e]

abbrev B_ (B : Base) : Base := { B with pins := [] }
/-- the names of the block forgotten -/
theorem Rel.wiped {μ : List Md} {ρ : Env} {σ : L2.St} {own : List Nat} (R : Rel g B F H μ ρ σ) (ho : ∀ i ∈ own, md μ i = .fz) : Rel g (B_ B) F H μ (M.wipeE ρ own) (wipe σ own) where
  toBx := ⟨R.sub, R.ext, R.keep, R.old, R.aa⟩
  lr := by rw [wipeE_length, wipe_length]; exact R.lr
  lm := by rw [wipe_length]; exact R.lm
  vars := fun i d e => by
    rw [wipeE_get] at e
    by_cases q : i ∈ own ∧ i < ρ.length
    · rw [if_pos q] at e; cases e
    · rw [if_neg q] at e
      obtain ⟨v, h1, h2⟩ := R.vars i d e
      exact ⟨v, by rw [wipe_get, if_neg (by rw [← R.lr]; exact q)]; exact h1, h2⟩
  sep := fun i j a n hi hj si sj => by
    have f : ∀ i, md μ i = .ow → (wipe σ own)[i]? = some (some (V.ref a)) → σ[i]? = some (some (V.ref a)) := fun i hi si => by
      rw [wipe_get] at si
      by_cases q : i ∈ own ∧ i < σ.length
      · rw [if_pos q] at si; cases si
      · rw [if_neg q] at si; exact si
    exact R.sep i j a n hi hj (f i hi si) (f j hj sj)
  pin := fun p hp => by cases hp
  there := fun i hi => by
    obtain ⟨d, e⟩ := R.there i hi
    refine ⟨d, ?_⟩
    rw [wipeE_get, if_neg ?_]
    · exact e
    · rintro ⟨q, _⟩; rw [ho i q] at hi; cases hi
/-- a free object (a list that is being made) changes -/
theorem Rel.free {μ : List Md} {ρ : Env} {σ : L2.St} {D : Addr} {u : HO} (R : Rel g B F H μ ρ σ) (hF : F D = none) (hO : ¬ Own μ σ D) (h0 : B.H0 D = none) (hA : D ∉ B.A0) : Rel g B F (upd H D u) μ ρ σ where
  toBx := ⟨R.sub.updR hF, R.ext, fun a o e n => by
      have x : a ≠ D := fun x => by subst x; rw [h0] at e; cases e
      rw [upd_ne x]; exact R.keep a o e n, R.old, fun a e => by
      have x : a ≠ D := fun x => hA (x ▸ e)
      rw [upd_ne x]; exact R.aa a e⟩
  lr := R.lr
  lm := R.lm
  vars := fun i d e => by
    obtain ⟨v, h1, h2⟩ := R.vars i d e
    refine ⟨v, h1, ?_⟩
    cases hm : md μ i with
    | fz => rw [hm] at h2; exact h2
    | an => rw [hm] at h2; exact h2
    | ow =>
      rw [hm] at h2
      obtain ⟨a, o, rfl, y2, y3⟩ := h2
      have x : a ≠ D := fun x => by subst x; exact hO ⟨i, hm, h1⟩
      exact ⟨a, o, rfl, by rw [upd_ne x]; exact y2, y3⟩
  sep := R.sep
  pin := R.pin
  there := R.there

def DTs (C : Ctx ι) (μ : List Md) (ifs : List Expr) (m : Env → Out (Bool × Env)) : Prop :=
  ∃ t : TT, (∀ j, PTs (C.X j) ifs t) ∧ ∀ B F H ρ σ Q, Rel C.g B F H μ ρ σ → Post C B F H μ σ (m ρ) (fun b _ F' H' => Q b H') → t σ H Q
theorem dts_nil : DTs C μ [] M.yes := ⟨_, fun _ => pts_nil, fun B F H ρ σ Q R h => h.now R⟩
theorem dts_one {c : Expr} {m : Env → Out (Bool × Env)} (h : DT C μ c m) : DTs C μ [c] m := by
  obtain ⟨t, p, s⟩ := h
  exact ⟨t, fun j => pts_one (p j), s⟩

/-- what a comprehension leaves to show -/
theorem lc_read {scope : Scope} {vs as : List (Option Str)} {own : List Nat} {wi : TI} {tgr : TG} {tt : TT} {te : TE} {mi : Env → Out (List D × Env)} {f : D → Env → Out Env} {mc : Env → Out (Bool × Env)} {me : Env → Out (D × Env)} {tl : List Nat}
    (si : ∀ B F H ρ σ R', Rel C.g B F H μ ρ σ → Post C B F H μ σ (mi ρ) (fun ds _ F' H' => ∀ J, Iter C.g B J F' ds → R' J H') → wi σ H R')
    (sg : ∀ B F H ρ σ v d (Q : L2.St → Hp → Prop), PinsW B [] → Rel C.g B F H μ ρ σ → Is C.g F v d → ∀ ρ', f d ρ = .ok ρ' → (∀ σ', Rel C.g B F H μ ρ' σ' → Off tl σ σ' → Q σ' H) → tgr v σ H Q)
    (st : ∀ B F H ρ σ Q, Rel C.g B F H μ ρ σ → Post (cctx C scope vs as) B F H μ σ (mc ρ) (fun b _ F' H' => Q b H') → tt σ H Q)
    (se : ∀ B F H ρ σ Q, Rel C.g B F H μ ρ σ → Post (cctx C scope vs as) B F H μ σ (me ρ) (fun d _ F' H' => ∀ v, Is C.g F' v d → Q v H') → te σ H Q)
    (ho : ∀ i ∈ own, md μ i = .fz) (htl : ∀ i ∈ tl, i ∈ own) {B : Base} {F H : Hp} {ρ : Env} {σ : L2.St} {Q : VK} (R : Rel C.g B F H μ ρ σ)
    (h : Post C B F H μ σ (M.lc mi f mc me own ρ) (fun d _ F' H' => ∀ a o, H' a = some o → H a = none → F' a = none → CellR C.g F' a o d → Q (.ref a) H')) : tLc wi tgr tt te own σ H Q := by
  refine si B F H ρ σ _ R ((Post.bnd h).imp fun ds ρ1 F1 H1 R1 S1 k J hJ => ?_)
  intro D hD
  have hF1 : F1 D = none := (R1.toBx.fresh hD).1
  have h0 : B.H0 D = none := (R1.toBx.fresh hD).2.1
  have hA : D ∉ B.A0 := (R1.toBx.fresh hD).2.2
  have hO1 : ¬ Own μ σ D := R1.new_notOwn hD
  have ownW : ∀ σ', Off own (wipe σ own) σ' → ∀ a, Own μ σ' a ↔ Own μ σ a := fun σ' hoff a => by
    have key : ∀ i, md μ i = .ow → σ'[i]? = σ[i]? := fun i hi => by
      have ni : i ∉ own := fun q => by rw [ho i q] at hi; cases hi
      rw [hoff i ni, wipe_get, if_neg (fun q => ni q.1)]
    constructor
    · rintro ⟨i, hm, e⟩; exact ⟨i, hm, by rw [← key i hm]; exact e⟩
    · rintro ⟨i, hm, e⟩; exact ⟨i, hm, by rw [key i hm]; exact e⟩
  have stepW : ∀ σ', Off own (wipe σ own) σ' → ∀ {F H F' H' : Hp}, Step μ σ' F H F' H' → Step μ σ F H F' H' := fun σ' hoff F H F' H' s =>
    ⟨s.f, fun a o e n => s.h a o e fun q => n ((ownW σ' hoff a).mp q), s.n, s.t⟩
  have offR : Off own (wipe σ own) (wipe σ own) := fun _ _ => rfl
  let Inv' : List PyD.D → List PyD.D → Env → Hp → Hp → Prop := fun rest accD ρ' F' H' => Rel C.g (B_ B) F' H' μ ρ' (wipe σ own) ∧ Step μ σ F1 H1 F' H' ∧ F' D = none ∧
    (∃ acc, H' D = some (.lst acc) ∧ IsAll C.g F' acc accD) ∧
    Post C B F1 H1 μ σ ((M.lcAux f mc me own rest accD ρ').bind fun q => .ok (.lst q.1, M.back ρ1 q.2 own)) (fun d _ F' H' => ∀ a o, H' a = some o → H a = none → F' a = none → CellR C.g F' a o d → Q (.ref a) H')
  refine ⟨fun i m H' => i + m = ds.length ∧ ∃ F' ρ' accD, Inv' (ds.drop i) accD ρ' F' H', ⟨ds.length, Nat.zero_add _, F1, M.wipeE ρ1 own, [], ?_⟩, ?_⟩
  · exact ⟨(R1.wiped ho).newH hD _, Step.newH hD, hF1, ⟨[], upd_same, .nil⟩, k⟩
  rintro i m H' ⟨him, F', ρ', accD, R', S', hF', ⟨acc, hacc, tacc⟩, k⟩
  have bx : Bx B F' H' := ⟨R'.sub, R'.ext, R'.keep, R'.old, R'.aa⟩
  cases hd : ds[i]? with
  | none =>
    have hle : ds.length ≤ i := List.getElem?_eq_none_iff.mp hd
    have hi : i = ds.length := by omega
    subst hi
    refine .inl ⟨hJ.stop F' H' S'.f bx, ?_⟩
    rw [List.drop_length] at k
    refine k F' H' ⟨bx, ?_, R1.lm, fun i d e => ?_, R1.sep, R1.pin, fun i hi => ?_⟩ S' D _ hacc (S1.fresh hD) hF' (.lst tacc)
    · rw [back_length]; have := R'.lr; rw [wipe_length] at this; exact this
    · rw [back_get (by have := R'.lr; rw [wipe_length] at this; rw [this]; exact R1.lr)] at e
      by_cases q : i ∈ own
      · rw [if_pos q] at e
        obtain ⟨v, y1, y2⟩ := R1.vars i d e
        rw [ho i q] at y2 ⊢
        exact ⟨v, y1, Is.mono S'.f y2⟩
      · rw [if_neg q] at e
        obtain ⟨v, y1, y2⟩ := R'.vars i d e
        rw [wipe_get, if_neg (fun z => q z.1)] at y1
        exact ⟨v, y1, y2⟩
    · obtain ⟨d, e⟩ := R'.there i hi
      have ni : i ∉ own := fun q => by rw [ho i q] at hi; cases hi
      exact ⟨d, by rw [back_get (by have := R'.lr; rw [wipe_length] at this; rw [this]; exact R1.lr), if_neg ni]; exact e⟩
  | some d =>
    obtain ⟨hlt, hget⟩ := List.getElem?_eq_some_iff.mp hd
    have hdrop : ds.drop i = d :: ds.drop (i + 1) := by rw [List.drop_eq_getElem_cons hlt, hget]
    rw [hdrop] at k
    obtain ⟨hgo, hy⟩ := hJ.go F' H' S'.f bx i d hd
    refine .inr ⟨hgo, fun H2 => ∃ F2 ρ2 acc2, Inv' (ds.drop (i + 1)) acc2 ρ2 F2 H2, ?_, fun x H2 hx => ?_⟩
    · rintro H2 ⟨F2, ρ2, acc2, h⟩
      exact ⟨m - 1, by omega, by omega, F2, ρ2, acc2, h⟩
    · obtain ⟨F2, hv, hF⟩ := hy x H2 hx
      have key : Rel C.g (B_ B) F2 H2 μ ρ' (wipe σ own) ∧ Step μ σ F1 H1 F2 H2 ∧ F2 D = none ∧ H2 D = some (.lst acc) ∧ IsAll C.g F2 acc accD := by
        rcases hF with ⟨rfl, rfl⟩ | ⟨p, o, hn, rfl, rfl⟩
        · exact ⟨R', S', hF', hacc, tacc⟩
        · have hp := (R'.toBx.fresh hn).1
          have np : D ≠ p := ne_of_none hacc hn
          exact ⟨R'.new hn o, S'.trans (Step.new hp hn), by rw [upd_ne np]; exact hF', by rw [upd_ne np]; exact hacc, tacc.mono (Le.upd hp)⟩
      obtain ⟨R2, S2, hF2, hacc2, tacc2⟩ := key
      unfold M.lcAux at k
      cases ef : f d ρ' with
      | exc x => simp only [ef] at k; exact k.elim
      | bad => simp only [ef] at k; exact k.elim
      | ok ρ2 =>
        simp only [ef] at k
        refine sg (B_ B) F2 H2 ρ' (wipe σ own) x d _ (fun p hp => by cases hp) R2 hv ρ2 ef fun σ3 R3 off3 => ?_
        have off : Off own (wipe σ own) σ3 := fun j hj => off3 j fun q => hj (htl j q)
        have wp : wipe σ3 own = wipe σ own := by
          refine List.ext_getElem? fun j => ?_
          have hl3 : σ3.length = σ.length := by rw [← R3.lm, R1.lm]
          rw [wipe_get, wipe_get, hl3]
          by_cases q : j ∈ own ∧ j < σ.length
          · rw [if_pos q, if_pos q]
          · rw [if_neg q, if_neg q]
            by_cases q2 : j ∈ own
            · have : ¬ j < σ.length := fun z => q ⟨q2, z⟩
              rw [List.getElem?_eq_none (by omega), List.getElem?_eq_none (by omega)]
            · rw [off j q2, wipe_get, if_neg q]
        refine ⟨wp, ?_⟩
        refine st (B_ B) F2 H2 ρ2 σ3 _ R3 ?_
        cases em : mc ρ2 with
        | exc x => simp only [em] at k; exact k.elim
        | bad => simp only [em] at k; exact k.elim
        | ok pb =>
          obtain ⟨b, ρ3⟩ := pb
          simp only [em] at k
          intro F4 H4 R4 S4
          have S4' := stepW σ3 off S4
          have hF4 : F4 D = none := by rw [S4.n D _ hacc2]; exact hF2
          have hacc4 : H4 D = some (.lst acc) := S4.h D _ hacc2 fun q => hO1 ((ownW σ3 off D).mp q)
          cases b with
          | false =>
            refine ⟨F4, M.wipeE ρ3 own, accD, ?_, S2.trans S4', hF4, ⟨acc, hacc4, tacc2.mono S4.f⟩, k⟩
            have := R4.wiped (own := own) ho
            rw [wp] at this
            exact this
          | true =>
            refine se (B_ B) F4 H4 ρ3 σ3 _ R4 ?_
            cases ee : me ρ3 with
            | exc x => simp only [ee] at k; exact k.elim
            | bad => simp only [ee] at k; exact k.elim
            | ok py =>
              obtain ⟨y, ρ5⟩ := py
              simp only [ee] at k
              by_cases hsz : accD.length < 100000
              · simp only [if_pos hsz] at k
                intro F5 H5 R5 S5 v hv
                have S5' := stepW σ3 off S5
                have hF5 : F5 D = none := by rw [S5.n D _ hacc4]; exact hF4
                have hacc5 : H5 D = some (.lst acc) := S5.h D _ hacc4 fun q => hO1 ((ownW σ3 off D).mp q)
                have tacc5 := (tacc2.mono S4.f).mono S5.f
                refine ⟨acc, hacc5, by rw [tacc5.length]; exact Nat.lt_of_lt_of_le hsz (by decide), F5, M.wipeE ρ5 own, accD ++ [y], ?_, ?_, hF5, ⟨acc ++ [v], upd_same, tacc5.append (.cons hv .nil)⟩, k⟩
                · have := R5.wiped (own := own) ho
                  rw [wp] at this
                  exact this.free hF5 (fun q => hO1 ((ownW _ offR D).mp q)) h0 hA
                · have S := (S2.trans S4').trans S5'
                  exact ⟨S.f, fun a o e n => by
                    have x : a ≠ D := fun x => by subst x; rw [hD] at e; cases e
                    rw [upd_ne x]; exact S.h a o e n, S.n, fun a o e => by
                    have x : a ≠ D := fun x => by subst x; rw [hD] at e; cases e
                    rw [upd_ne x]; exact S.t a o e⟩
              · simp only [if_neg hsz] at k; exact k.elim

/-- [elt for tg in it if ..] -/
theorem dn_lc (ok : C.Ok) {it elt : Expr} {ifs : List Expr} {scope : Scope} {vs as : List (Option Str)} {own : List (Str × Nat)} {mi : Env → Out (List D × Env)} {f : D → Env → Out Env} {mc : Env → Out (Bool × Env)} {me : Env → Out (D × Env)} {tl : List Nat}
    (hb : BlkV C scope vs as) (hblk : ∀ j, BlkOk (C.X j).N (C.X j).env.scope scope own) (ho : ∀ i ∈ own.map (·.2), md μ i = .fz) (htl : ∀ i ∈ tl, i ∈ own.map (·.2))
    (hi : DI C μ tg it mi) (hg : DG (cctx C scope vs as) μ tg μ f tl) (ht : DTs (cctx C scope vs as) μ ifs mc) (he : DE (cctx C scope vs as) μ elt me)
    (hs : ∀ j x, foldedSetIterable it (C.X j).env x = pure x := by intro _ _; rfl) : DN C μ (.ListComp elt [⟨tg, it, ifs, 0⟩] scope pos) (M.lc mi f mc me (own.map (·.2))) := by
  obtain ⟨wi, pi, si⟩ := hi
  obtain ⟨tgr, pg, sg⟩ := hg
  obtain ⟨tt, pt, st⟩ := ht
  obtain ⟨te, pe, se⟩ := he
  refine ⟨tLc wi tgr tt te (own.map (·.2)), fun j => ?_, fun B F H ρ σ Q R h => lc_read (own := own.map (·.2)) si sg st se ho htl R h⟩
  exact pe_lc (ok.calm j) (by rw [ok.hN j]; exact ok.nd) (pi j) (hblk j) (fun s H C cl fp => pg (j, s, H, C, cl, fp)) (fun s H C cl fp => pt (j, s, H, C, cl, fp)) (fun s H C cl fp => pe (j, s, H, C, cl, fp)) (hs j)
end
end PyD

set_option Elab.async false
set_option linter.all false
set_option maxRecDepth 100000
namespace PyD
open PySem L2 L2X PyProof.Rows

/-! ### built-in functions by their values -/
def RdAll (g : G) (F H : Hp) : List V → List D → Prop
  | [], [] => True
  | v :: vs, d :: ds => RdR g F H v d ∧ RdAll g F H vs ds
  | _, _ => False
section
variable {ι : Type} {C : Ctx ι} {μ : List Md} {e a b : Expr} {es : List Expr} {pos p p2 p3 : Pos} {x : Str} {g : G} {B : Base} {F H : Hp} {ρ : Env} {σ : L2.St}
theorem Rel.args (R : Rel g B F H μ ρ σ) : ∀ {vs : List V} {as : List Arg} {ds : List D}, ArgsR g F σ vs as → gets as ρ = .ok ds → RdAll g F H vs ds
  | [], [], ds, _, h => by cases h; trivial
  | v :: vs, a :: as, ds, ha, h => by
    unfold gets at h
    cases e1 : get a ρ with
    | ok d =>
      rw [e1] at h
      cases e2 : gets as ρ with
      | ok es => rw [Out.bind_ok, e2] at h; cases h; exact ⟨R.arg ha.1 e1, Rel.args R ha.2 e2⟩
      | exc x => rw [Out.bind_ok, e2] at h; cases h
      | bad => rw [Out.bind_ok, e2] at h; cases h
    | exc x => rw [e1] at h; cases h
    | bad => rw [e1] at h; cases h
  | [], _ :: _, _, h, _ => h.elim
  | _ :: _, [], _, h, _ => h.elim
def CallS (C : Ctx ι) (r : List V → Hp → VK → Prop) (f : List D → Out D) : Prop := ∀ B F H μ ρ σ vs ds Q, Rel C.g B F H μ ρ σ → RdAll C.g F H vs ds →
  Post C B F H μ σ ((f ds).bind fun d => .ok (d, ρ)) (fun d _ F' H' => ∀ v, Is C.g F' v d → Q v H') → r vs H Q
def CallN (C : Ctx ι) (r : List V → Hp → VK → Prop) (f : List D → Out D) : Prop := ∀ B F H μ ρ σ vs ds Q, Rel C.g B F H μ ρ σ → RdAll C.g F H vs ds →
  Post C B F H μ σ ((f ds).bind fun d => .ok (d, ρ)) (fun d _ F' H' => ∀ a o, H' a = some o → H a = none → F' a = none → CellR C.g F' a o d → Q (.ref a) H') → r vs H Q
def M.callB (f : List D → Out D) (ms : Env → Out (List Arg × Env)) : Env → Out (D × Env) := fun ρ => (ms ρ).bind fun p => (gets p.1 p.2).bind fun ds => (f ds).bind fun d => .ok (d, p.2)
theorem callB_core {r : List V → Hp → VK → Prop} {f : List D → Out D} {ms : Env → Out (List Arg × Env)} {t : TA} {K : D → Env → Hp → Hp → Hp → Hp → VK → Prop}
    (hs : ∀ B F H μ ρ σ vs ds Q, Rel C.g B F H μ ρ σ → RdAll C.g F H vs ds → Post C B F H μ σ ((f ds).bind fun d => .ok (d, ρ)) (fun d ρ' F' H' => K d ρ' F' H' F H Q) → r vs H Q)
    (sa : ∀ B F H ρ σ Q, Rel C.g B F H μ ρ σ → Post C B F H μ σ (ms ρ) (fun as _ F' H' => ∀ vs, ArgsR C.g F' σ vs as → Q vs H') → t σ H Q)
    (R : Rel C.g B F H μ ρ σ) {Q : VK} (h : Post C B F H μ σ (M.callB f ms ρ) (fun d ρ' F' H' => ∀ F1 H1, Step μ σ F H F1 H1 → K d ρ' F' H' F1 H1 Q)) : tCB r t σ H Q := by
  refine sa B F H ρ σ _ R ((Post.bnd h).imp fun as ρ1 F1 H1 R1 S1 k vs hv => ?_)
  have k : Post C B F1 H1 μ σ ((gets as ρ1).bind fun ds => (f ds).bind fun d => .ok (d, ρ1)) (fun d ρ' F' H' => ∀ F1 H1, Step μ σ F H F1 H1 → K d ρ' F' H' F1 H1 Q) := k
  cases eg : gets as ρ1 with
  | exc z => exact absurd eg (gets_ne _ _ _)
  | bad => rw [eg] at k; exact k.elim
  | ok ds =>
    rw [eg] at k
    exact hs B F1 H1 μ ρ1 σ vs ds Q R1 (R1.args hv eg) (k.imp fun d ρ' F' H' R' S' k => k F1 H1 S1)
theorem de_callB {r : List V → Hp → VK → Prop} {f : List D → Out D} {id : String} (ok : C.Ok) (hc : ∀ j, CallR (C.X j) (.builtin id) r) (hs : CallS C r f) (hg : ∀ j, Gl (C.X j) x) (hm : C.g.mg x = none) (hv : bootBuiltins x = some (.builtin id)) {ms : Env → Out (List Arg × Env)} (ha : DOs C μ (e :: es) ms)
    (hn : x ≠ "__name__" := by decide) (hdb : (x == ("__debug__" : Str)) = false := by decide) (he : ∀ j, starEach (e :: es) (C.X j).env = (false, eval e (C.X j).env) :: starEach es (C.X j).env := by intro _; rfl) (hpl : ∀ j, (backTo pos (starEach es (C.X j).env)).any (·.1) = false := by intro _; rfl) :
    DE C μ (.Call (.Name x p) (e :: es) [] pos) (M.callB f ms) := by
  obtain ⟨t, pt, sa⟩ := ha
  refine ⟨_, fun j => pe_callB (hc j) (hg j) (by rw [ok.hm j]; exact hm) hv (pt j) hn hdb (he j) (hpl j), fun B F H ρ σ Q R h => callB_core (K := fun d _ F' H' _ _ Q => ∀ v, Is C.g F' v d → Q v H') hs sa R (h.imp fun d ρ' F' H' R' S' k F1 H1 S1 => k)⟩
theorem de_callTy {r : List V → Hp → VK → Prop} {f : List D → Out D} {T : String} (ok : C.Ok) (hc : ∀ j, CallR (C.X j) (.type T) r) (hs : CallS C r f) (hg : ∀ j, Gl (C.X j) x) (hm : C.g.mg x = none) (hv : bootBuiltins x = some (.type T)) {ms : Env → Out (List Arg × Env)} (ha : DOs C μ (e :: es) ms)
    (hn : x ≠ "__name__" := by decide) (hdb : (x == ("__debug__" : Str)) = false := by decide) (he : ∀ j, starEach (e :: es) (C.X j).env = (false, eval e (C.X j).env) :: starEach es (C.X j).env := by intro _; rfl) (hpl : ∀ j, (backTo pos (starEach es (C.X j).env)).any (·.1) = false := by intro _; rfl) :
    DE C μ (.Call (.Name x p) (e :: es) [] pos) (M.callB f ms) := by
  obtain ⟨t, pt, sa⟩ := ha
  refine ⟨_, fun j => pe_callTy (hc j) (hg j) (by rw [ok.hm j]; exact hm) hv (pt j) hn hdb (he j) (hpl j), fun B F H ρ σ Q R h => callB_core (K := fun d _ F' H' _ _ Q => ∀ v, Is C.g F' v d → Q v H') hs sa R (h.imp fun d ρ' F' H' R' S' k F1 H1 S1 => k)⟩
theorem dn_callB {r : List V → Hp → VK → Prop} {f : List D → Out D} {id : String} (ok : C.Ok) (hc : ∀ j, CallR (C.X j) (.builtin id) r) (hs : CallN C r f) (hg : ∀ j, Gl (C.X j) x) (hm : C.g.mg x = none) (hv : bootBuiltins x = some (.builtin id)) {ms : Env → Out (List Arg × Env)} (ha : DOs C μ (e :: es) ms)
    (hn : x ≠ "__name__" := by decide) (hdb : (x == ("__debug__" : Str)) = false := by decide) (he : ∀ j, starEach (e :: es) (C.X j).env = (false, eval e (C.X j).env) :: starEach es (C.X j).env := by intro _; rfl) (hpl : ∀ j, (backTo pos (starEach es (C.X j).env)).any (·.1) = false := by intro _; rfl) :
    DN C μ (.Call (.Name x p) (e :: es) [] pos) (M.callB f ms) := by
  obtain ⟨t, pt, sa⟩ := ha
  refine ⟨_, fun j => pe_callB (hc j) (hg j) (by rw [ok.hm j]; exact hm) hv (pt j) hn hdb (he j) (hpl j), fun B F H ρ σ Q R h => callB_core (K := fun d _ F' H' F H Q => ∀ a o, H' a = some o → H a = none → F' a = none → CellR C.g F' a o d → Q (.ref a) H') hs sa R (h.imp fun d ρ' F' H' R' S' k F1 H1 S1 a o h1 h2 h3 h4 => k a o h1 (S1.fresh h2) h3 h4)⟩
theorem dn_callTy {r : List V → Hp → VK → Prop} {f : List D → Out D} {T : String} (ok : C.Ok) (hc : ∀ j, CallR (C.X j) (.type T) r) (hs : CallN C r f) (hg : ∀ j, Gl (C.X j) x) (hm : C.g.mg x = none) (hv : bootBuiltins x = some (.type T)) {ms : Env → Out (List Arg × Env)} (ha : DOs C μ (e :: es) ms)
    (hn : x ≠ "__name__" := by decide) (hdb : (x == ("__debug__" : Str)) = false := by decide) (he : ∀ j, starEach (e :: es) (C.X j).env = (false, eval e (C.X j).env) :: starEach es (C.X j).env := by intro _; rfl) (hpl : ∀ j, (backTo pos (starEach es (C.X j).env)).any (·.1) = false := by intro _; rfl) :
    DN C μ (.Call (.Name x p) (e :: es) [] pos) (M.callB f ms) := by
  obtain ⟨t, pt, sa⟩ := ha
  refine ⟨_, fun j => pe_callTy (hc j) (hg j) (by rw [ok.hm j]; exact hm) hv (pt j) hn hdb (he j) (hpl j), fun B F H ρ σ Q R h => callB_core (K := fun d _ F' H' F H Q => ∀ a o, H' a = some o → H a = none → F' a = none → CellR C.g F' a o d → Q (.ref a) H') hs sa R (h.imp fun d ρ' F' H' R' S' k F1 H1 S1 a o h1 h2 h3 h4 => k a o h1 (S1.fresh h2) h3 h4)⟩

/-- one argument -/
theorem RdAll.one {v : List V} {d : D} (h : RdAll g F H v [d]) : ∃ u, v = [u] ∧ RdR g F H u d := by
  match v, h with
  | [u], h => exact ⟨u, rfl, h.1⟩
  | _ :: _ :: _, h => exact h.2.elim
theorem RdAll.two {v : List V} {d e : D} (h : RdAll g F H v [d, e]) : ∃ u w, v = [u, w] ∧ RdR g F H u d ∧ RdR g F H w e := by
  match v, h with
  | [u, w], h => exact ⟨u, w, rfl, h.1, h.2.1⟩
  | [_], h => exact h.2.elim
  | _ :: _ :: _ :: _, h => exact h.2.2.elim
def lenO : List D → Out D
  | [.lst ds] => .ok (.int ds.length)
  | [.tup ds] => .ok (.int ds.length)
  | _ => .bad
def rLen (K : PySem.W.Frag) : List V → Hp → VK → Prop := fun xs H Q => ∃ p ys, xs = [.ref p] ∧ (SqL K H p ys ∨ SqT K H p ys) ∧ Q (.int ys.length) H
theorem c_len (ok : C.Ok) (j : ι) : CallR (C.X j) (.builtin "len") (rLen C.g.K) := by
  have h := call_len_seq (X := C.X j)
  rw [ok.hK j] at h
  exact h
theorem s_len : CallS C (rLen C.g.K) lenO := by
  intro B F H μ ρ σ vs ds Q R hv h
  match ds, hv, h with
  | [.lst xs], hv, h =>
    obtain ⟨u, rfl, hu⟩ := hv.one
    obtain ⟨a, ws, rfl, ha, t⟩ := hu.lst R.sub
    exact ⟨a, ws, rfl, .inl (SqL.of ha), h.sc R (by rw [t.length]; exact .int _)⟩
  | [.tup xs], hv, h =>
    obtain ⟨u, rfl, hu⟩ := hv.one
    obtain ⟨a, ws, rfl, ha, t⟩ := hu.tup R.sub
    exact ⟨a, ws, rfl, .inr ha, h.sc R (by rw [t.length]; exact .int _)⟩
def tupO : List D → Out D
  | [.lst ds] => .ok (.tup ds)
  | [.tup ds] => .ok (.tup ds)
  | _ => .bad
theorem c_tup (ok : C.Ok) (j : ι) : CallR (C.X j) (.type "tuple") (rTupX C.g.K) := by
  have h := cr_tupX (X := C.X j)
  rw [ok.hK j] at h
  exact h
theorem s_tup : CallS C (rTupX C.g.K) tupO := by
  intro B F H μ ρ σ vs ds Q R hv h
  match ds, hv, h with
  | [.lst xs], hv, h =>
    obtain ⟨u, rfl, hu⟩ := hv.one
    obtain ⟨a, ws, rfl, ha, t⟩ := hu.lst R.sub
    exact ⟨a, ws, rfl, .inl ⟨SqL.of ha, Post.tup h R t⟩⟩
  | [.tup xs], hv, h =>
    obtain ⟨u, rfl, hu⟩ := hv.one
    obtain ⟨a, ws, rfl, ha, t⟩ := hu.tup R.sub
    exact ⟨a, ws, rfl, .inr ⟨ha, h.sc R hu.tupF⟩⟩
def lstO : List D → Out D
  | [.lst ds] => .ok (.lst ds)
  | [.tup ds] => .ok (.lst ds)
  | _ => .bad
def rList (K : PySem.W.Frag) : List V → Hp → VK → Prop := fun xs H Q => ∃ p ys, xs = [.ref p] ∧ (SqL K H p ys ∨ SqT K H p ys) ∧ ∀ l, H l = none → Q (.ref l) (upd H l (.lst ys))
theorem c_lst (ok : C.Ok) (j : ι) : CallR (C.X j) (.type "list") (rList C.g.K) := by
  have h := call_list_of (X := C.X j)
  rw [ok.hK j] at h
  exact h
theorem s_lst : CallN C (rList C.g.K) lstO := by
  intro B F H μ ρ σ vs ds Q R hv h
  match ds, hv, h with
  | [.lst xs], hv, h =>
    obtain ⟨u, rfl, hu⟩ := hv.one
    obtain ⟨a, ws, rfl, ha, t⟩ := hu.lst R.sub
    exact ⟨a, ws, rfl, .inl (SqL.of ha), fun l hl => Post.lstN h R hl t⟩
  | [.tup xs], hv, h =>
    obtain ⟨u, rfl, hu⟩ := hv.one
    obtain ⟨a, ws, rfl, ha, t⟩ := hu.tup R.sub
    exact ⟨a, ws, rfl, .inr ha, fun l hl => Post.lstN h R hl t⟩
def intO : List D → Out D
  | [.int i] => .ok (.int i)
  | [.bl b] => .ok (.int (if b then 1 else 0))
  | _ => .bad
theorem c_int (j : ι) : CallR (C.X j) (.type "int") (fun xs H Q => (∃ i, xs = [.int i] ∧ Q (.int i) H) ∨ ∃ k, xs = [.bl k] ∧ Q (.int (if k then 1 else 0)) H) := call_int1
theorem s_int : CallS C (fun xs H Q => (∃ i, xs = [.int i] ∧ Q (.int i) H) ∨ ∃ k, xs = [.bl k] ∧ Q (.int (if k then 1 else 0)) H) intO := by
  intro B F H μ ρ σ vs ds Q R hv h
  match ds, hv, h with
  | [.int i], hv, h => obtain ⟨u, rfl, hu⟩ := hv.one; rw [hu.int]; exact .inl ⟨i, rfl, h.sc R (.int _)⟩
  | [.bl b], hv, h => obtain ⟨u, rfl, hu⟩ := hv.one; rw [hu.bl]; exact .inr ⟨b, rfl, h.sc R (.int _)⟩
def min2O : List D → Out D
  | [.int i, .int j] => .ok (.int (if j < i then j else i))
  | _ => .bad
def max2O : List D → Out D
  | [.int i, .int j] => .ok (.int (if j > i then j else i))
  | _ => .bad
def rMin2 : List V → Hp → VK → Prop := fun xs H Q => ∃ i j, xs = [.int i, .int j] ∧ Q (.int (if j < i then j else i)) H
def rMax2_ : List V → Hp → VK → Prop := fun xs H Q => ∃ i j, xs = [.int i, .int j] ∧ Q (.int (if j > i then j else i)) H
theorem c_min2 (ok : C.Ok) (j : ι) : CallR (C.X j) (.builtin "min") rMin2 := call_min2 (ok.calm j)
theorem c_max2 (ok : C.Ok) (j : ι) : CallR (C.X j) (.builtin "max") rMax2_ := call_max2 (ok.calm j)
theorem s_min2 : CallS C rMin2 min2O := by
  intro B F H μ ρ σ vs ds Q R hv h
  match ds, hv, h with
  | [.int i, .int j], hv, h => obtain ⟨u, w, rfl, hu, hw⟩ := hv.two; rw [hu.int, hw.int]; exact ⟨i, j, rfl, h.sc R (.int _)⟩
theorem s_max2 : CallS C rMax2_ max2O := by
  intro B F H μ ρ σ vs ds Q R hv h
  match ds, hv, h with
  | [.int i, .int j], hv, h => obtain ⟨u, w, rfl, hu, hw⟩ := hv.two; rw [hu.int, hw.int]; exact ⟨i, j, rfl, h.sc R (.int _)⟩

/-! ### lists of one kind -/
def ints? : List D → Option (List Int)
  | [] => some []
  | .int i :: ds => (ints? ds).map (i :: ·)
  | _ => none
theorem ints?_eq : ∀ {ds : List D} {ns : List Int}, ints? ds = some ns → ds = ns.map D.int
  | [], ns, h => by cases h; rfl
  | .int i :: ds, ns, h => by
    unfold ints? at h
    cases e : ints? ds with
    | none => rw [e] at h; cases h
    | some ms => rw [e] at h; cases h; rw [List.map_cons, ints?_eq e]
  | .non :: _, _, h => by cases h
  | .bl _ :: _, _, h => by cases h
  | .str _ :: _, _, h => by cases h
  | .tup _ :: _, _, h => by cases h
  | .lst _ :: _, _, h => by cases h
  | .scr _ :: _, _, h => by cases h
  | .obj _ _ _ :: _, _, h => by cases h
  | .dic _ _ :: _, _, h => by cases h
  | .set _ :: _, _, h => by cases h
@[simp] theorem ints?_map : ∀ ns : List Int, ints? (ns.map D.int) = some ns
  | [] => rfl
  | n :: ns => by rw [List.map_cons, ints?, ints?_map ns]; rfl
theorem IsAll.toInts : ∀ {vs : List V} {ns : List Int}, IsAll g F vs (ns.map D.int) → vs = ns.map V.int
  | [], [], _ => rfl
  | v :: vs, n :: ns, h => by
    cases h with
    | cons h1 h2 => cases h1; rw [List.map_cons, IsAll.toInts h2]
  | [], _ :: _, h => by cases h
  | _ :: _, [], h => by cases h
def bls? : List D → Option (List Bool)
  | [] => some []
  | .bl i :: ds => (bls? ds).map (i :: ·)
  | _ => none
theorem bls?_eq : ∀ {ds : List D} {ns : List Bool}, bls? ds = some ns → ds = ns.map D.bl
  | [], ns, h => by cases h; rfl
  | .bl i :: ds, ns, h => by
    unfold bls? at h
    cases e : bls? ds with
    | none => rw [e] at h; cases h
    | some ms => rw [e] at h; cases h; rw [List.map_cons, bls?_eq e]
  | .non :: _, _, h => by cases h
  | .int _ :: _, _, h => by cases h
  | .str _ :: _, _, h => by cases h
  | .tup _ :: _, _, h => by cases h
  | .lst _ :: _, _, h => by cases h
  | .scr _ :: _, _, h => by cases h
  | .obj _ _ _ :: _, _, h => by cases h
  | .dic _ _ :: _, _, h => by cases h
  | .set _ :: _, _, h => by cases h
@[simp] theorem bls?_map : ∀ ns : List Bool, bls? (ns.map D.bl) = some ns
  | [] => rfl
  | n :: ns => by rw [List.map_cons, bls?, bls?_map ns]; rfl
theorem IsAll.toBls : ∀ {vs : List V} {ns : List Bool}, IsAll g F vs (ns.map D.bl) → vs = ns.map V.bl
  | [], [], _ => rfl
  | v :: vs, n :: ns, h => by
    cases h with
    | cons h1 h2 => cases h1; rw [List.map_cons, IsAll.toBls h2]
  | [], _ :: _, h => by cases h
  | _ :: _, [], h => by cases h
def allO : List D → Out D
  | [.lst ds] => match bls? ds with
    | some bs => .ok (.bl (bs.all id))
    | none => .bad
  | _ => .bad
def anyO : List D → Out D
  | [.lst ds] => match bls? ds with
    | some bs => .ok (.bl (bs.any id))
    | none => .bad
  | _ => .bad
def sumO : List D → Out D
  | [.lst ds] => match ints? ds with
    | some bs => .ok (.int bs.sum)
    | none => .bad
  | _ => .bad
theorem c_all (ok : C.Ok) (j : ι) : CallR (C.X j) (.builtin "all") (rAll C.g.K) := by
  have h := cr_all (X := C.X j) (ok.calm j)
  rw [ok.hK j] at h
  exact h
theorem c_any (ok : C.Ok) (j : ι) : CallR (C.X j) (.builtin "any") (rAny C.g.K) := by
  have h := cr_any (X := C.X j) (ok.calm j)
  rw [ok.hK j] at h
  exact h
theorem c_sum (ok : C.Ok) (j : ι) : CallR (C.X j) (.builtin "sum") (rSum C.g.K) := by
  have h := cr_sum (X := C.X j) (ok.calm j)
  rw [ok.hK j] at h
  exact h
theorem s_all : CallS C (rAll C.g.K) allO := by
  intro B F H μ ρ σ vs ds Q R hv h
  match ds, hv, h with
  | [.lst xs], hv, h =>
    obtain ⟨u, rfl, hu⟩ := hv.one
    obtain ⟨a, ws, rfl, ha, t⟩ := hu.lst R.sub
    unfold allO at h
    cases e : bls? xs with
    | none => simp only [e] at h; exact h.elim
    | some bs =>
      simp only [e] at h
      rw [bls?_eq e] at t
      exact ⟨a, bs, rfl, SqL.of (by rw [← t.toBls]; exact ha), h.sc R (.bl _)⟩
theorem s_any : CallS C (rAny C.g.K) anyO := by
  intro B F H μ ρ σ vs ds Q R hv h
  match ds, hv, h with
  | [.lst xs], hv, h =>
    obtain ⟨u, rfl, hu⟩ := hv.one
    obtain ⟨a, ws, rfl, ha, t⟩ := hu.lst R.sub
    unfold anyO at h
    cases e : bls? xs with
    | none => simp only [e] at h; exact h.elim
    | some bs =>
      simp only [e] at h
      rw [bls?_eq e] at t
      exact ⟨a, bs, rfl, SqL.of (by rw [← t.toBls]; exact ha), h.sc R (.bl _)⟩
theorem s_sum : CallS C (rSum C.g.K) sumO := by
  intro B F H μ ρ σ vs ds Q R hv h
  match ds, hv, h with
  | [.lst xs], hv, h =>
    obtain ⟨u, rfl, hu⟩ := hv.one
    obtain ⟨a, ws, rfl, ha, t⟩ := hu.lst R.sub
    unfold sumO at h
    cases e : ints? xs with
    | none => simp only [e] at h; exact h.elim
    | some bs =>
      simp only [e] at h
      rw [ints?_eq e] at t
      exact ⟨a, bs, rfl, SqL.of (by rw [← t.toInts]; exact ha), h.sc R (.int _)⟩
/-- sorted ints -/
def ins (i : Int) : List Int → List Int
  | [] => [i]
  | j :: js => if i ≤ j then i :: j :: js else j :: ins i js
def isort : List Int → List Int
  | [] => []
  | i :: is => ins i (isort is)
theorem ins_perm (i : Int) : ∀ js : List Int, (ins i js).Perm (i :: js)
  | [] => List.Perm.refl _
  | j :: js => by
    unfold ins
    split
    · exact List.Perm.refl _
    · exact ((ins_perm i js).cons j).trans (List.Perm.swap i j js)
theorem isort_perm : ∀ is : List Int, (isort is).Perm is
  | [] => List.Perm.refl _
  | i :: is => by unfold isort; exact (ins_perm i _).trans ((isort_perm is).cons i)
theorem ins_sorted {i : Int} : ∀ {js : List Int}, js.Pairwise (· ≤ ·) → (ins i js).Pairwise (· ≤ ·)
  | [], _ => by unfold ins; exact List.pairwise_singleton _ _
  | j :: js, h => by
    unfold ins
    have h' := List.pairwise_cons.mp h
    split
    · rename_i hij
      exact List.pairwise_cons.mpr ⟨fun k hk => by
        rcases List.mem_cons.mp hk with rfl | hk
        · exact hij
        · exact Int.le_trans hij (h'.1 k hk), h⟩
    · rename_i hij
      refine List.pairwise_cons.mpr ⟨fun k hk => ?_, ins_sorted h'.2⟩
      rcases List.mem_cons.mp ((ins_perm i js).mem_iff.mp hk) with rfl | hk
      · omega
      · exact h'.1 k hk
theorem isort_sorted : ∀ is : List Int, (isort is).Pairwise (· ≤ ·)
  | [] => List.Pairwise.nil
  | i :: is => by unfold isort; exact ins_sorted (isort_sorted is)
theorem sorted_uniq : ∀ {l m : List Int}, l.Perm m → l.Pairwise (· ≤ ·) → m.Pairwise (· ≤ ·) → l = m
  | [], m, h, _, _ => (List.Perm.eq_nil h.symm).symm
  | x :: l, [], h, _, _ => absurd h.length_eq (by simp)
  | x :: l, y :: m, h, hl, hm => by
    have h1 := List.pairwise_cons.mp hl
    have h2 := List.pairwise_cons.mp hm
    have e : x = y := by
      have a : x ≤ y := by
        rcases List.mem_cons.mp (h.mem_iff.mpr (List.mem_cons_self (a := y))) with q | q
        · omega
        · exact h1.1 y q
      have b : y ≤ x := by
        rcases List.mem_cons.mp (h.mem_iff.mp (List.mem_cons_self (a := x))) with q | q
        · omega
        · exact h2.1 x q
      omega
    subst e
    rw [sorted_uniq ((List.perm_cons x).mp h) h1.2 h2.2]
def sortIO : List D → Out D
  | [.lst ds] => match ints? ds with
    | some ns => .ok (.lst ((isort ns).map D.int))
    | none => .bad
  | _ => .bad
theorem c_sortI (ok : C.Ok) (j : ι) : CallR (C.X j) (.builtin "sorted") (rSortedI C.g.K) := by
  have h := cr_sortedI (X := C.X j)
  rw [ok.hK j] at h
  exact h
theorem s_sortI : CallN C (rSortedI C.g.K) sortIO := by
  intro B F H μ ρ σ vs ds Q R hv h
  match ds, hv, h with
  | [.lst xs], hv, h =>
    obtain ⟨u, rfl, hu⟩ := hv.one
    obtain ⟨a, ws, rfl, ha, t⟩ := hu.lst R.sub
    unfold sortIO at h
    cases e : ints? xs with
    | none => simp only [e] at h; exact h.elim
    | some ns =>
      simp only [e] at h
      rw [ints?_eq e] at t
      refine ⟨a, ns, rfl, SqL.of (by rw [← t.toInts]; exact ha), fun ns' p hp hs hn => ?_⟩
      rw [sorted_uniq (hp.trans (isort_perm ns).symm) hs (isort_sorted ns)]
      exact Post.lstN h R hn (IsAll.ints _)
end
end PyD

set_option Elab.async false
set_option linter.all false
set_option maxRecDepth 100000
namespace L2X
open PySem PySem.Spec PyProof.Rows L2
/-- the type of a receiver -/
def tyW (K : PySem.W.Frag) (T : String) (x : V) (H : Hp) : Prop := tyV K T x H ∨ (T = "tuple" ∧ ∃ p o xs, x = .ref p ∧ H p = some (.frz o (.tup xs)) ∧ TupOb o)
theorem tyW_is {X : Cx} {pins : List (Addr × Obj)} {σ : L2.St} {H : Hp} {s : Shared} {T : String} {x : V} {v : Value} (I : Inv X pins σ H s) (r : RelV x v) (ty : tyW X.K T x H) :
    s.TypeIs v T ∧ ∀ a, v = .ref a → ∃ ob, s.heap.get? a = some ob ∧ ob.dict = none := by
  rcases ty with ty | ⟨rfl, p, o, xs, rfl, h, hc, hd⟩
  · exact tyV_is I r ty
  · cases r
    obtain ⟨e, _⟩ := I.hok p _ h
    refine ⟨⟨o, e, hc⟩, fun a ea => ?_⟩
    cases ea
    exact ⟨o, e, hd⟩
section
variable {X : Cx} {o e : Expr} {es : List Expr} {to : TE} {t : TA} {name : Str} {apos cpos : Pos} {T id : String} {r : V → List V → Hp → VK → Prop}
def tMx (K : PySem.W.Frag) (T : String) (r : V → List V → Hp → VK → Prop) (to : TE) (t : TA) : TE := fun σ H Q => to σ H fun x H1 => tyW K T x H1 ∧ t σ H1 fun xs H2 => r x xs H2 Q
theorem pe_mx (pa : PlainAttrs T) (slot : Slot T name id) (hty : typeOf (.builtin id) = pure (.type "method_descriptor")) (hm : MtR X id r) (ho : PE X o to) (ha : PA X (e :: es) t)
    (hbase : attributeBase o name X.env (eval o X.env) = eval o X.env)
    (hfew : ((backTo cpos (starEach (e :: es) X.env)).all (fun x => !x.1) && (backToKw cpos (keywordEach [] X.env)).all (fun x => x.1.isSome)
      && decide ((e :: es).length + ([] : List Keyword).length + (if ([] : List Keyword).isEmpty then 0 else 1) < 30)) = true)
    (hline : (apos.endLine == cpos.line) = true) (hs : starEach (e :: es) X.env = (false, eval e X.env) :: starEach es X.env) (hplain : (backTo cpos (starEach es X.env)).any (·.1) = false) :
    PE X (.Call (.Attribute o name apos) (e :: es) [] cpos) (tMx X.K T r to t) := by
  refine ⟨fun pins s σ H Q I h => ?_⟩
  refine wpAny_Call_method_late hbase hfew hline rfl (thn (ho.run pins s σ H _ I h) fun v s1 ⟨x, H1, I1, r1, ty, q1⟩ => ?_)
  obtain ⟨h1, h2⟩ := tyW_is I1 r1 ty
  refine ⟨T, id, pa, slot, hty, h1, h2, ?_⟩
  have hA := ha.run cpos pins s1 σ H1 _ I1 q1
  rw [hs] at hA ⊢
  refine Calls.callWith_builtin (by show (false || (backTo cpos (starEach es X.env)).any (·.1)) = false; rw [hplain] <;> rfl) (Calls.evalArgs_plain ?_)
  exact thn hA fun us s2 ⟨vs, H2, I2, r2, q2⟩ => hm pins s2 σ H2 x vs v us Q I2 r1 r2 q2
/-- t.index(x) of data -/
def rTupIdx (K : PySem.W.Frag) : V → List V → Hp → VK → Prop := fun x xs H Q => ∃ (a : Addr) (y : V) (d : PyData) (ds : List PyData) (j : Nat) (z : PyData), x = V.ref a ∧ xs = [y] ∧ Dp K H (V.ref a) (.tuple ds) ∧ Dp K H y d ∧
  SeqAt.shaped (.tuple ds) = true ∧ SeqAt.shaped d = true ∧ ds[j]? = some z ∧ PyData.eqv z d = true ∧ (∀ (m : Nat) (z' : PyData), m < j → ds[m]? = some z' → PyData.eqv z' d = false) ∧ Q (.int (j : Nat)) H
end
end L2X

namespace PyD
open PySem L2 L2X PyProof.Rows

section
variable {ι : Type} {C : Ctx ι} {μ : List Md} {e a b : Expr} {es : List Expr} {pos p p2 p3 : Pos} {x : Str} {g : G} {B : Base} {F H : Hp} {ρ : Env} {σ : L2.St}
/-! ### subscripts -/
def ixO : D → D → Out D
  | .lst ds, .int i => match atI ds i with
    | some d => .ok d
    | none => .bad
  | .tup ds, .int i => match atI ds i with
    | some d => .ok d
    | none => .bad
  | _, _ => .bad
theorem IsAll.atI {vs : List V} {ds : List D} {i : Int} {d : D} (t : IsAll g F vs ds) (h : L2.atI ds i = some d) : ∃ v, L2.atI vs i = some v ∧ Is g F v d := by
  unfold L2.atI at h ⊢
  rw [t.length]
  cases e : ixN ds.length i with
  | none => rw [e] at h; cases h
  | some j => rw [e] at h; exact t.get h
def rIx2 (K : PySem.W.Frag) : R2 := fun x y H Q => rIxL K x y H Q ∨ rIxT K x y H Q
theorem i_ix (ok : C.Ok) (j : ι) : IxR (C.X j) (rIx2 C.g.K) := by
  have h := IxR.or (ix_list (X := C.X j)) ix_tup
  rw [ok.hK j] at h
  exact h
theorem RdR.lstI {ds : List D} (sub : Le F H) {v : V} (h : RdR g F H v (.lst ds)) : ∃ a vs, v = .ref a ∧ H a = some (.lst vs) ∧ IsAll g F vs ds := h.lst sub
theorem s_ix : BinS C (rIx2 C.g.K) ixO := by
  intro B F H μ ρ σ x y dx dy Q R rx ry h
  match dx, dy, rx, ry, h with
  | .lst ds, .int i, rx, ry, h =>
    obtain ⟨a, vs, rfl, ha, t⟩ := rx.lst R.sub
    rw [ry.int]
    unfold ixO at h
    cases e : L2.atI ds i with
    | none => simp only [e] at h; exact h.elim
    | some d =>
      simp only [e] at h
      obtain ⟨v, hv, iv⟩ := t.atI e
      exact .inl ⟨a, vs, i, v, rfl, rfl, SqL.of ha, hv, h.sc R iv⟩
  | .tup ds, .int i, rx, ry, h =>
    obtain ⟨a, vs, rfl, ha, t⟩ := rx.tup R.sub
    rw [ry.int]
    unfold ixO at h
    cases e : L2.atI ds i with
    | none => simp only [e] at h; exact h.elim
    | some d =>
      simp only [e] at h
      obtain ⟨v, hv, iv⟩ := t.atI e
      exact .inr ⟨a, vs, i, v, rfl, rfl, ha, hv, h.sc R iv⟩
theorem de_ix (ok : C.Ok) {oa ob : Env → Out (Arg × Env)} (ha : DO C μ a oa) (hb : DO C μ b ob) (hs : PlainIx b := by exact fun _ _ => rfl) : DE C μ (.Subscript a b pos) (M.op2 ixO oa ob) := by
  obtain ⟨ta, pa, sa⟩ := ha
  obtain ⟨tb, pb, sb⟩ := hb
  exact ⟨_, fun j => pe_ix (i_ix ok j) (pa j) (pb j) hs, fun B F H ρ σ Q R h => binS_core s_ix sa sb R h⟩
/-- slices of lists and tuples -/
def DP (C : Ctx ι) (μ : List Md) (e : Option Expr) (m : Env → Out (Option Int × Env)) : Prop :=
  ∃ t : TO, (∀ j, PO (C.X j) e t) ∧ ∀ B F H ρ σ Q, Rel C.g B F H μ ρ σ → Post C B F H μ σ (m ρ) (fun o _ F' H' => Q o H') → t σ H Q
def M.pnone : Env → Out (Option Int × Env) := fun ρ => .ok (none, ρ)
def M.psome (m : Env → Out (D × Env)) : Env → Out (Option Int × Env) := fun ρ => (m ρ).bind fun p => match p.1 with
  | .int i => .ok (some i, p.2)
  | _ => .bad
theorem dp_none : DP C μ none M.pnone := ⟨_, fun _ => po_none, fun B F H ρ σ Q R h => h.now R⟩
theorem dp_some {m : Env → Out (D × Env)} (h : DE C μ e m) : DP C μ (some e) (M.psome m) := by
  obtain ⟨t, pt, s⟩ := h
  refine ⟨_, fun j => po_some (pt j), fun B F H ρ σ Q R h => s B F H ρ σ _ R ((Post.bnd h).imp fun d ρ1 F1 H1 R1 S1 k v hv => ?_)⟩
  match d, hv, k with
  | .int i, .int _, k => exact ⟨i, rfl, k.now R1⟩
  | .non, _, k => exact k.elim
  | .bl _, _, k => exact k.elim
  | .str _, _, k => exact k.elim
  | .tup _, _, k => exact k.elim
  | .lst _, _, k => exact k.elim
  | .scr _, _, k => exact k.elim
  | .obj _ _ _, _, k => exact k.elim
  | .dic _ _, _, k => exact k.elim
  | .set _, _, k => exact k.elim
def cutD (xs : List D) (lo hi : Option Int) : List D := (xs.drop (HT.sIx xs.length 0 lo)).take (HT.sIx xs.length xs.length hi - HT.sIx xs.length 0 lo)
theorem IsAll.cut {vs : List V} {ds : List D} (t : IsAll g F vs ds) (lo hi : Option Int) : IsAll g F (cutV vs lo hi) (cutD ds lo hi) := by
  unfold cutV cutD
  rw [t.length]
  exact (t.drop _).take _
def sliceO (d : D) (lo hi : Option Int) : Out D := match d with
  | .lst ds => .ok (.lst (cutD ds lo hi))
  | .tup ds => .ok (.tup (cutD ds lo hi))
  | _ => .bad
def M.slice (oa : Env → Out (Arg × Env)) (ml mh : Env → Out (Option Int × Env)) : Env → Out (D × Env) := fun ρ => (oa ρ).bind fun p => (ml p.2).bind fun l => (mh l.2).bind fun h =>
  (get p.1 h.2).bind fun d => (sliceO d l.1 h.1).bind fun r => .ok (r, h.2)
def rSl2 (K : PySem.W.Frag) : V → Option Int → Option Int → Hp → VK → Prop := fun x lo hi H Q => rSlL K x lo hi H Q ∨ rSlX K x lo hi H Q
theorem cutD_whole {ds : List D} {lo hi : Option Int} (h : HT.sIx ds.length 0 lo = 0 ∧ HT.sIx ds.length ds.length hi = ds.length) : cutD ds lo hi = ds := by
  unfold cutD; rw [h.1, h.2]; simp
theorem slice_core {ta : TE} {tl th : TO} {oa : Env → Out (Arg × Env)} {ml mh : Env → Out (Option Int × Env)} {K : D → Hp → Hp → Prop}
    (sa : ∀ B F H ρ σ Q, Rel C.g B F H μ ρ σ → Post C B F H μ σ (oa ρ) (fun a _ F' H' => ∀ v, ArgR C.g F' σ v a → Q v H') → ta σ H Q)
    (sl : ∀ B F H ρ σ Q, Rel C.g B F H μ ρ σ → Post C B F H μ σ (ml ρ) (fun o _ F' H' => Q o H') → tl σ H Q)
    (sh : ∀ B F H ρ σ Q, Rel C.g B F H μ ρ σ → Post C B F H μ σ (mh ρ) (fun o _ F' H' => Q o H') → th σ H Q)
    (R : Rel C.g B F H μ ρ σ) {Q : VK} {Kd : D → Env → Hp → Hp → Prop} (hl : ∀ {F1 H1 ρ1 vs ds p}, Step μ σ F H F1 H1 → Rel C.g B F1 H1 μ ρ1 σ → Post C B F1 H1 μ σ (.ok (.lst ds, ρ1)) Kd → H1 p = none → IsAll C.g F1 vs ds → Q (.ref p) (upd H1 p (.lst vs)))
    (ht : ∀ {F1 H1 ρ1 vs ds}, Rel C.g B F1 H1 μ ρ1 σ → Post C B F1 H1 μ σ (.ok (.tup ds, ρ1)) Kd → IsAll C.g F1 vs ds → NewT vs H1 Q)
    (hs : ∀ {F1 H1 ρ1 v ds}, Rel C.g B F1 H1 μ ρ1 σ → Post C B F1 H1 μ σ (.ok (.tup ds, ρ1)) Kd → Is C.g F1 v (.tup ds) → Q v H1)
    (h : Post C B F H μ σ (M.slice oa ml mh ρ) Kd) : tSl (rSl2 C.g.K) ta tl th σ H Q := by
  refine sa B F H ρ σ _ R ((Post.bnd h).imp fun x ρ1 F1 H1 R1 S1 k1 v hv => ?_)
  refine sl B F1 H1 ρ1 σ _ R1 ((Post.bnd k1).imp fun lo ρ2 F2 H2 R2 S2 k2 => ?_)
  refine sh B F2 H2 ρ2 σ _ R2 ((Post.bnd k2).imp fun hi ρ3 F3 H3 R3 S3 k3 => ?_)
  have hv3 : ArgR C.g F3 σ v x := (hv.mono S2.f).mono S3.f
  have k3 : Post C B F3 H3 μ σ ((get x ρ3).bind fun d => (sliceO d lo hi).bind fun r => .ok (r, ρ3)) Kd := k3
  cases ex : get x ρ3 with
  | exc z => exact absurd ex (get_ne _ _ _)
  | bad => rw [ex] at k3; exact k3.elim
  | ok d =>
    rw [ex] at k3
    have rd := R3.arg hv3 ex
    cases d with
    | lst ds =>
      obtain ⟨a, vs, rfl, ha, t⟩ := rd.lst R3.sub
      exact .inl ⟨a, vs, rfl, SqL.of ha, fun p hp => hl ((S1.trans S2).trans S3) R3 k3 hp (t.cut lo hi)⟩
    | tup ds =>
      obtain ⟨a, vs, rfl, ha, t⟩ := rd.tup R3.sub
      refine .inr ⟨a, vs, rfl, ha, fun w => hs R3 k3 ?_, fun w => ht R3 k3 (t.cut lo hi)⟩
      rw [t.length] at w
      rw [cutD_whole w]
      exact rd.tupF
    | _ => exact k3.elim
theorem de_slice (ok : C.Ok) {lo hi : Option Expr} {oa : Env → Out (Arg × Env)} {ml mh : Env → Out (Option Int × Env)} (ha : DO C μ e oa) (h1 : DP C μ lo ml) (h2 : DP C μ hi mh) : DE C μ (.Subscript e (.Slice lo hi none p2) pos) (M.slice oa ml mh) := by
  obtain ⟨ta, pa, sa⟩ := ha
  obtain ⟨tl, pl, sl⟩ := h1
  obtain ⟨th, ph, sh⟩ := h2
  refine ⟨tSl (rSl2 C.g.K) ta tl th, fun j => ?_, fun B F H ρ σ Q R h => slice_core (K := fun _ _ _ => True) sa sl sh R (fun S1 R1 k hp t => Post.lst k R1 hp t) (fun R1 k t => Post.tup k R1 t) (fun R1 k hi => k.now R1 _ hi) h⟩
  have q := SlR.or (X := C.X j) sl_list sl_tupX
  rw [ok.hK j] at q
  exact pe_slice q (pa j) (pl j) (ph j)
/-- xs[::-1] of a list -/
def revO : D → Out D
  | .lst ds => .ok (.lst ds.reverse)
  | _ => .bad
theorem de_rev (ok : C.Ok) {k : Nat} {q1 q2 q3 : Pos} {oa : Env → Out (Arg × Env)} (ha : DO C μ e oa) : DE C μ (.Subscript e (.Slice none none (some (.UnaryOp .USub (.Constant (.int 1) k q1) q2)) q3) pos) (M.op1 revO oa) := by
  obtain ⟨ta, pa, sa⟩ := ha
  refine ⟨tRevL C.g.K ta, fun j => by rw [← ok.hK j]; exact pe_revL (pa j), fun B F H ρ σ Q R h => sa B F H ρ σ _ R ((Post.bnd h).imp fun x ρ1 F1 H1 R1 S1 k1 v hv => ?_)⟩
  have k1 : Post C B F1 H1 μ σ ((get x ρ1).bind fun d => (revO d).bind fun r => .ok (r, ρ1)) _ := k1
  cases ex : get x ρ1 with
  | exc z => exact absurd ex (get_ne _ _ _)
  | bad => rw [ex] at k1; exact k1.elim
  | ok d =>
    rw [ex] at k1
    have rd := R1.arg hv ex
    cases d with
    | lst ds =>
      obtain ⟨a, vs, rfl, ha, t⟩ := rd.lst R1.sub
      exact ⟨a, vs, rfl, SqL.of ha, fun p hp => Post.lst k1 R1 hp t.reverse⟩
    | _ => exact k1.elim

/-! ### methods of an owned list -/
/-- what a method does to the list, what it hands back -/
def MetS (C : Ctx ι) (r : V → List V → Hp → VK → Prop) (f : List D → List D → Out (D × List D)) : Prop := ∀ F H (l : Addr) vs xs ds ys Q, Le F H → F l = none → H l = some (.lst vs) → IsAll C.g F vs ds → IsAll C.g F xs ys →
  (∀ d ds', f ds ys = .ok (d, ds') → ∀ v vs', Is C.g F v d → IsAll C.g F vs' ds' → Q v (upd H l (.lst vs'))) → (f ds ys ≠ .bad) → (∀ z, f ds ys ≠ .exc z) → r (.ref l) xs H Q
def isLst : Option (Option D) → Bool
  | some (some (.lst _)) => true
  | _ => false
def metK (i : Nat) (f : List D → List D → Out (D × List D)) (p : List D × Env) : Out (D × Env) := match p.2[i]? with
  | some (some (.lst ds)) => (match f ds p.1 with
    | .ok (d, ds') => .ok (d, p.2.set i (some (.lst ds')))
    | _ => .bad)
  | _ => .bad
def M.met (i : Nat) (f : List D → List D → Out (D × List D)) (ms : Env → Out (List D × Env)) : Env → Out (D × Env) := fun ρ => if isLst ρ[i]? = true then (ms ρ).bind (metK i f) else .bad
theorem de_met (ok : C.Ok) (i : Nat) (hx : C.vs[i]? = some (some x)) (hm : md μ i = .ow) {name : Str} {id : String} {r : V → List V → Hp → VK → Prop} {f : List D → List D → Out (D × List D)} (pa : PlainAttrs "list") (slot : Slot "list" name id) (hty : typeOf (.builtin id) = pure (.type "method_descriptor"))
    (hr : ∀ j, MtR (C.X j) id r) (hs : MetS C r f) {ms : Env → Out (List D × Env)} {apos cpos : Pos} (ha : DA C μ (e :: es) ms)
    (hbase : ∀ j, attributeBase (.Name x p) name (C.X j).env (eval (.Name x p) (C.X j).env) = eval (.Name x p) (C.X j).env := by intro _; rfl)
    (hfew : ∀ j, ((backTo cpos (starEach (e :: es) (C.X j).env)).all (fun x => !x.1) && (backToKw cpos (keywordEach [] (C.X j).env)).all (fun x => x.1.isSome)
      && decide ((e :: es).length + ([] : List Keyword).length + (if ([] : List Keyword).isEmpty then 0 else 1) < 30)) = true := by intro _; rfl)
    (hline : (apos.endLine == cpos.line) = true := by rfl) (hst : ∀ j, starEach (e :: es) (C.X j).env = (false, eval e (C.X j).env) :: starEach es (C.X j).env := by intro _; rfl) (hpl : ∀ j, (backTo cpos (starEach es (C.X j).env)).any (·.1) = false := by intro _; rfl) :
    DE C μ (.Call (.Attribute (.Name x p) name apos) (e :: es) [] cpos) (M.met i f ms) := by
  obtain ⟨t, pt, sa⟩ := ha
  refine ⟨tMx C.g.K "list" r (tVar i) t, fun j => ?_, fun B F H ρ σ Q R h => ?_⟩
  · obtain ⟨h1, h2, h3, h4⟩ := ok.vis j i x hx
    rw [← ok.hK j]
    exact pe_mx pa slot hty (hr j) (pe_var (by rw [ok.hN j]; exact h1) h2 h3 h4) (pt j) (hbase j) (hfew j) hline (hst j) (hpl j)
  · obtain ⟨d0, hd0⟩ := R.there i hm
    obtain ⟨l, o, h1, h2, h3, h4, h5⟩ := R.own_there hm hd0
    unfold M.met at h
    rw [hd0] at h
    refine ⟨.ref l, h1, ?_, ?_⟩
    · cases h3 with
      | lst t0 => exact .inl (.inl ⟨rfl, _, SqL.of h2⟩)
      | dic _ _ _ => exact h.elim
    · cases d0 with
      | lst d0 => ?_
      | _ => exact h.elim
      replace h : Post C B F H μ σ ((ms ρ).bind (metK i f)) (fun d _ F' H' => ∀ v, Is C.g F' v d → Q v H') := h
      refine sa B F H ρ σ _ R ((Post.bnd h).imp fun ys ρ1 F1 H1 R1 S1 k xs hxs => ?_)
      unfold metK at k
      rcases hr1 : ρ1[i]? with _ | (_ | d)
      · simp only [hr1] at k; exact k.elim
      · simp only [hr1] at k; exact k.elim
      · cases d with
        | lst ds =>
          simp only [hr1] at k
          obtain ⟨l', o', y1, y2, y3, y4, y5⟩ := R1.own_there hm hr1
          rw [h1] at y1; cases y1
          cases y3 with
          | lst t1 =>
            refine hs F1 H1 l _ xs ds ys Q R1.sub y4 y2 t1 hxs (fun d ds' ef v vs' hv ht => ?_) (fun ef => ?_) (fun z ef => ?_)
            · simp only [ef] at k
              exact k F1 _ (R1.mut hm hr1 h1 (.lst ht)) (R1.mutStep hm h1) v hv
            · simp only [ef] at k; exact k.elim
            · simp only [ef] at k; exact k.elim
        | _ => simp only [hr1] at k; exact k.elim
def appO (ds ys : List D) : Out (D × List D) := match ys with
  | [y] => if ds.length < 100000 then .ok (.non, ds ++ [y]) else .bad
  | _ => .bad
theorem m_app : MetS C rAppend appO := by
  intro F H l vs xs ds ys Q sub hF hl t hxs k hb he
  unfold appO at k hb
  match ys, hxs with
  | [y], .cons hy .nil =>
    by_cases q : ds.length < 100000
    · simp only [if_pos q] at k
      exact ⟨l, vs, _, rfl, rfl, hl, by rw [t.length]; exact Nat.lt_of_lt_of_le q (by decide), k _ _ rfl _ _ .non (t.append (.cons hy .nil))⟩
    · simp only [if_neg q] at hb; exact absurd rfl hb
  | [], _ => exact absurd rfl hb
  | _ :: _ :: _, _ => exact absurd rfl hb
def popO (ds ys : List D) : Out (D × List D) := match ys with
  | [.int i] => if -(2 ^ 63) ≤ i ∧ i < 2 ^ 63 then (match ixN ds.length i with
    | some k => (match ds[k]? with
      | some d => .ok (d, ds.eraseIdx k)
      | none => .bad)
    | none => .bad) else .bad
  | _ => .bad
theorem m_pop : MetS C rPopAt popO := by
  intro F H l vs xs ds ys Q sub hF hl t hxs k hb he
  obtain ⟨i, rfl⟩ : ∃ i, ys = [.int i] := by
    unfold popO at hb
    split at hb
    · exact ⟨_, rfl⟩
    · exact absurd rfl hb
  cases hxs with
  | cons hy h2 =>
    cases h2; cases hy
    unfold popO at k hb
    by_cases q : -(2 ^ 63) ≤ i ∧ i < 2 ^ 63
    · simp only [if_pos q] at k hb
      cases e1 : ixN ds.length i with
      | none => simp only [e1] at hb; exact absurd rfl hb
      | some j =>
        simp only [e1] at k hb
        cases e2 : ds[j]? with
        | none => simp only [e2] at hb; exact absurd rfl hb
        | some d =>
          simp only [e2] at k
          obtain ⟨v, hv, iv⟩ := t.get e2
          exact ⟨l, vs, i, j, v, rfl, rfl, hl, q.1, q.2, by rw [t.length]; exact (ixN_seq e1).1, hv, k _ _ rfl _ _ iv (t.eraseIdx j)⟩
    · simp only [if_neg q] at hb; exact absurd rfl hb
def insO (ds ys : List D) : Out (D × List D) := match ys with
  | [.int i, y] => if ds.length < 100000 ∧ 0 ≤ i ∧ i < 2 ^ 63 then .ok (.non, ds.take i.toNat ++ [y] ++ ds.drop i.toNat) else .bad
  | _ => .bad
def rInsert : V → List V → Hp → VK → Prop := fun x vs H Q => ∃ (l : Addr) (xs : List V) (i : Int) (y : V), x = .ref l ∧ vs = [.int i, y] ∧ H l = some (.lst xs) ∧ xs.length < sizeLine ∧ 0 ≤ i ∧ i < 2 ^ 63 ∧
    Q .non (upd H l (.lst (xs.take i.toNat ++ [y] ++ xs.drop i.toNat)))
theorem mt_ins {X : Cx} : MtR X "list.insert" rInsert := mt_insert
theorem m_ins : MetS C rInsert insO := by
  intro F H l vs xs ds ys Q sub hF hl t hxs k hb he
  obtain ⟨i, y, rfl⟩ : ∃ i y, ys = [.int i, y] := by
    unfold insO at hb
    split at hb
    · exact ⟨_, _, rfl⟩
    · exact absurd rfl hb
  cases hxs with
  | cons h1 h2 =>
    cases h2 with
    | cons h2 h3 =>
      cases h3; cases h1
      unfold insO at k hb
      by_cases q : ds.length < 100000 ∧ 0 ≤ i ∧ i < 2 ^ 63
      · simp only [if_pos q] at k
        exact ⟨l, vs, i, _, rfl, rfl, hl, by rw [t.length]; exact Nat.lt_of_lt_of_le q.1 (by decide), q.2.1, q.2.2, k _ _ rfl _ _ .non (((t.take _).append (.cons h2 .nil)).append (t.drop _))⟩
      · simp only [if_neg q] at hb; exact absurd rfl hb

/-! ### x[i] = e of an owned list -/
def M.store (i : Nat) (mv mi : Env → Out (D × Env)) : Env → SOut := fun ρ => (mv ρ).then fun p => (mi p.2).then fun q => match q.2[i]?, q.1 with
  | some (some (.lst ds)), .int k => (match ixN ds.length k with
    | some j => .nx (q.2.set i (some (.lst (ds.set j p.1))))
    | none => .bad)
  | _, _ => .bad
theorem ds_store (ok : C.Ok) (i : Nat) (hx : C.vs[i]? = some (some x)) (hm : md μ i = .ow) {ie : Expr} {spos apos : Pos} {mv mi : Env → Out (D × Env)} {rm : Md} {μL : List Md} (hv : DE C μ e mv) (hi : DE C μ ie mi)
    (ha : ∀ j v, assign (.Subscript (.Name x p) ie spos) (C.X j).env v = (do
      let ov ← holding [v] (eval (.Name x p) (C.X j).env)
      let iv ← holding [v, ov] (eval ie (C.X j).env)
      standAt spos
      holding [v, ov, iv] (setItem ov iv v)
      release [v, ov, iv] []) := by intro _ _; rfl)
    (hs : ∀ j, swapsWithSole [.Subscript (.Name x p) ie spos] e apos.line (C.X j).env = pure false := by intro _; rfl) (hw : ∀ j, swappedStores [.Subscript (.Name x p) ie spos] e (C.X j).env = pure none := by intro _; rfl)
    (h1 : ∀ j, (assignEach [.Subscript (.Name x p) ie spos] (C.X j).env).map (·.2) = [assign (.Subscript (.Name x p) ie spos) (C.X j).env] := by intro _; rfl) :
    DS C rm μL μ (.Assign [.Subscript (.Name x p) ie spos] e apos) μ (M.store i mv mi) := by
  obtain ⟨tv, pv, sv⟩ := hv
  obtain ⟨ti, pi, si⟩ := hi
  refine ⟨tAsg tv (gSub (tVar i) ti rSetL), fun j => ?_, fun B F H ρ σ D hp R h => ?_⟩
  · obtain ⟨h1', h2, h3, h4⟩ := ok.vis j i x hx
    exact ps_asg (pv j) (pg_sub (pe_var (by rw [ok.hN j]; exact h1') h2 h3 h4) (pi j) set_list (ha j)) (hs j) (hw j) (h1 j)
  · refine sv B F H ρ σ _ R ((SPost.of h).imp fun d ρ1 F1 H1 R1 S1 k v hv => ?_)
    obtain ⟨d0, hd0⟩ := R1.there i hm
    obtain ⟨l, o, y1, y2, y3, y4, y5⟩ := R1.own_there hm hd0
    refine ⟨.ref l, y1, ?_⟩
    refine si B F1 H1 ρ1 σ _ R1 ((SPost.of k).imp fun di ρ2 F2 H2 R2 S2 k w hw => ?_)
    rcases hr : ρ2[i]? with _ | (_ | d2)
    · simp only [hr] at k; exact k.elim
    · simp only [hr] at k; exact k.elim
    · cases d2 with
      | lst ds =>
        cases di with
        | int n =>
          cases hw
          simp only [hr] at k
          cases e1 : ixN ds.length n with
          | none => simp only [e1] at k; exact k.elim
          | some j =>
            simp only [e1] at k
            obtain ⟨l', o', z1, z2, z3, z4, z5⟩ := R2.own_there hm hr
            rw [y1] at z1; cases z1
            cases z3 with
            | lst t =>
              refine ⟨l, _, n, j, rfl, rfl, z2, by rw [t.length]; exact e1, ?_⟩
              exact k F2 _ σ (R2.mut hm hr y1 (.lst (IsAll.set (Is.mono S2.f hv) j t))) (Le.refl _)
        | _ => simp only [hr] at k; exact k.elim
      | _ => simp only [hr] at k; exact k.elim

/-! ### ranges as values -/
def rgD (a b : Int) : List D := (List.range (b - a).toNat).map fun (i : Nat) => D.int (a + i)
theorem IsAll.rg (a b : Int) : IsAll g F (rgV a b) (rgD a b) := by
  have : ∀ l : List Nat, IsAll g F (l.map fun (i : Nat) => V.int (a + i)) (l.map fun (i : Nat) => D.int (a + i)) := fun l => by
    induction l with
    | nil => exact .nil
    | cons x l ih => exact .cons (.int _) ih
  exact this _
def rgOk (a b : Int) : Bool := decide (-1000 ≤ a) && decide (b ≤ 16000000) && decide (a ≤ 16000000) && decide (-1000 ≤ b)
theorem rgOk_of {a b : Int} (h : rgOk a b = true) : RgOk a b := by
  unfold rgOk at h
  simp only [Bool.and_eq_true, decide_eq_true_eq] at h
  obtain ⟨⟨⟨h1, h2⟩, h3⟩, h4⟩ := h
  exact ⟨by omega, by omega, by omega, by omega, by omega⟩
/-- tuple(range(n)), list(range(n)) -/
def M.rgT (m : Env → Out (D × Env)) : Env → Out (D × Env) := M.map (fun d => match d with
  | .int n => if rgOk 0 n = true then .ok (.tup (rgD 0 n)) else .bad
  | _ => .bad) m
def M.rgL (m : Env → Out (D × Env)) : Env → Out (D × Env) := M.map (fun d => match d with
  | .int n => if rgOk 0 n = true then .ok (.lst (rgD 0 n)) else .bad
  | _ => .bad) m
theorem prg1 {X : Cx} {ta : TE} (hg : Gl X "range") (hm : X.mg "range" = none) (ha : PE X e ta) (na : starEach [e] X.env = (false, eval e X.env) :: starEach [] X.env) : PRg X (.Call (.Name "range" p) [e] [] p2) (tRg1 ta) := prg_1 hg hm ha na
theorem de_tupRg (ok : C.Ok) {m : Env → Out (D × Env)} (hg : ∀ j, Gl (C.X j) "tuple") (hm : C.g.mg "tuple" = none) (hg2 : ∀ j, Gl (C.X j) "range") (hm2 : C.g.mg "range" = none) (h : DE C μ e m) {q1 q2 : Pos}
    (na : ∀ j, starEach [.Call (.Name "range" q1) [e] [] q2] (C.X j).env = (false, eval (.Call (.Name "range" q1) [e] [] q2) (C.X j).env) :: starEach [] (C.X j).env := by intro _; rfl)
    (nb : ∀ j, starEach [e] (C.X j).env = (false, eval e (C.X j).env) :: starEach [] (C.X j).env := by intro _; rfl) :
    DE C μ (.Call (.Name "tuple" p) [.Call (.Name "range" q1) [e] [] q2] [] pos) (M.rgT m) := by
  obtain ⟨t, pt, s⟩ := h
  refine ⟨_, fun j => pe_tupRgX (ok.calm j) (hg j) (by rw [ok.hm j]; exact hm) (prg1 (hg2 j) (by rw [ok.hm j]; exact hm2) (pt j) (nb j)) (na j), fun B F H ρ σ Q R h => s B F H ρ σ _ R ((Post.bnd h).imp fun d ρ1 F1 H1 R1 S1 k v hv => ?_)⟩
  cases hv with
  | int n =>
    by_cases q : rgOk 0 n = true
    · simp only [if_pos q] at k
      exact ⟨n, rfl, rgOk_of q, Post.tup k R1 (IsAll.rg 0 n)⟩
    · simp only [if_neg q] at k; exact k.elim
  | _ => exact k.elim
theorem dn_lstRg (ok : C.Ok) {m : Env → Out (D × Env)} (hg : ∀ j, Gl (C.X j) "list") (hm : C.g.mg "list" = none) (hg2 : ∀ j, Gl (C.X j) "range") (hm2 : C.g.mg "range" = none) (h : DE C μ e m) {q1 q2 : Pos}
    (na : ∀ j, starEach [.Call (.Name "range" q1) [e] [] q2] (C.X j).env = (false, eval (.Call (.Name "range" q1) [e] [] q2) (C.X j).env) :: starEach [] (C.X j).env := by intro _; rfl)
    (nb : ∀ j, starEach [e] (C.X j).env = (false, eval e (C.X j).env) :: starEach [] (C.X j).env := by intro _; rfl) :
    DN C μ (.Call (.Name "list" p) [.Call (.Name "range" q1) [e] [] q2] [] pos) (M.rgL m) := by
  obtain ⟨t, pt, s⟩ := h
  refine ⟨_, fun j => pe_listRg (ok.calm j) (hg j) (by rw [ok.hm j]; exact hm) (prg1 (hg2 j) (by rw [ok.hm j]; exact hm2) (pt j) (nb j)) (na j), fun B F H ρ σ Q R h => s B F H ρ σ _ R ((Post.bnd h).imp fun d ρ1 F1 H1 R1 S1 k v hv => ?_)⟩
  cases hv with
  | int n =>
    by_cases q : rgOk 0 n = true
    · simp only [if_pos q] at k
      exact ⟨n, rfl, rgOk_of q, fun l hl => Post.lstN (Q := Q) (k.imp fun d _ F' H' R2 S2 k a o h1 h2 h3 h4 => k a o h1 (S1.fresh h2) h3 h4) R1 hl (IsAll.rg 0 n)⟩
    · simp only [if_neg q] at k; exact k.elim
  | _ => exact k.elim
/-- a new list: xs + ys, xs * k -/
def BinN (C : Ctx ι) (r : R2) (f : D → D → Out D) : Prop := ∀ B F H μ ρ σ x y dx dy Q, Rel C.g B F H μ ρ σ → RdR C.g F H x dx → RdR C.g F H y dy →
  Post C B F H μ σ ((f dx dy).bind fun d => .ok (d, ρ)) (fun d _ F' H' => ∀ a o, H' a = some o → H a = none → F' a = none → CellR C.g F' a o d → Q (.ref a) H') → r x y H Q
theorem dn_bin {op : Operator} {r : R2} {f : D → D → Out D} (ho : ∀ j, OpR (C.X j) (binaryOp op) r) (hs : BinN C r f) {oa ob : Env → Out (Arg × Env)} (ha : DO C μ a oa) (hb : DO C μ b ob) : DN C μ (.BinOp a op b pos) (M.op2 f oa ob) := by
  obtain ⟨ta, pa, sa⟩ := ha
  obtain ⟨tb, pb, sb⟩ := hb
  refine ⟨_, fun j => pe_op (ho j) (pa j) (pb j), fun B F H ρ σ Q R h => ?_⟩
  refine sa B F H ρ σ _ R ((Post.bnd h).imp fun x ρ1 F1 H1 R1 S1 k1 v hv => ?_)
  refine sb B F1 H1 ρ1 σ _ R1 ((Post.bnd k1).imp fun y ρ2 F2 H2 R2 S2 k2 u hu => ?_)
  have hv2 : ArgR C.g F2 σ v x := hv.mono S2.f
  have k2 : Post C B F2 H2 μ σ ((get x ρ2).bind fun dx => (get y ρ2).bind fun dy => (f dx dy).bind fun d => .ok (d, ρ2)) _ := k2
  cases ex : get x ρ2 with
  | exc z => exact absurd ex (get_ne _ _ _)
  | bad => rw [ex] at k2; exact k2.elim
  | ok dx =>
    rw [ex, Out.bind_ok] at k2
    cases ey : get y ρ2 with
    | exc z => exact absurd ey (get_ne _ _ _)
    | bad => rw [ey] at k2; exact k2.elim
    | ok dy =>
      rw [ey, Out.bind_ok] at k2
      exact hs B F2 H2 μ ρ2 σ v u dx dy Q R2 (R2.arg hv2 ex) (R2.arg hu ey) (k2.imp fun d _ F' H' _ _ k a o h1 h2 h3 h4 => k a o h1 ((S1.trans S2).fresh h2) h3 h4)
def catO : D → D → Out D
  | .lst a, .lst b => if a.length + b.length ≤ 100000 then .ok (.lst (a ++ b)) else .bad
  | _, _ => .bad
theorem n_cat : BinN C rCat catO := by
  intro B F H μ ρ σ x y dx dy Q R rx ry h
  match dx, dy, rx, ry, h with
  | .lst as, .lst bs, rx, ry, h =>
    unfold catO at h
    by_cases q : as.length + bs.length ≤ 100000
    · simp only [if_pos q] at h
      obtain ⟨a, vs, rfl, ha, t⟩ := rx.lst R.sub
      obtain ⟨b, ws, rfl, hb, u⟩ := ry.lst R.sub
      exact ⟨a, b, vs, ws, rfl, rfl, ha, hb, by rw [t.length, u.length]; exact size100 q, fun p hp => Post.lstN h R hp (t.append u)⟩
    · simp only [if_neg q] at h; exact h.elim
def repO : D → D → Out D
  | .lst ds, .int k => if -(2 ^ 63) ≤ k ∧ k < 2 ^ 63 ∧ ds.length * k.toNat ≤ 100000 then .ok (.lst (List.replicate k.toNat ds).flatten) else .bad
  | _, _ => .bad
theorem n_rep : BinN C rRep repO := by
  intro B F H μ ρ σ x y dx dy Q R rx ry h
  match dx, dy, rx, ry, h with
  | .lst ds, .int k, rx, ry, h =>
    unfold repO at h
    by_cases q : -(2 ^ 63) ≤ k ∧ k < 2 ^ 63 ∧ ds.length * k.toNat ≤ 100000
    · simp only [if_pos q] at h
      obtain ⟨a, vs, rfl, ha, t⟩ := rx.lst R.sub
      rw [ry.int]
      exact ⟨a, k, vs, rfl, rfl, ha, q.1, q.2.1, by rw [t.length]; exact size100 q.2.2, fun p hp => Post.lstN h R hp (t.rep _)⟩
    · simp only [if_neg q] at h; exact h.elim

/-! ### x op= e -/
theorem ds_aug (ok : C.Ok) (i : Nat) (hx : C.as[i]? = some (some x)) (hi : C.io.contains i = false) (hm : md μ i ≠ .ow) {op : Operator} {r : Int → Int → Int} {f : D → D → Out D} {rm : Md} {μL : List Md} (hr : ∀ j, PIp (C.X j) op (ipI r)) (hf : ∀ x y, f x y = match x, y with
    | .int a, .int b => .ok (.int (r a b))
    | _, _ => .bad) {me : Env → Out (D × Env)} (h : DE C μ e me) : DS C rm μL μ (.AugAssign (.Name x p) op e pos) (μ.set i .fz) (M.aug f i me) := by
  obtain ⟨t, pt, s⟩ := h
  refine ⟨tAug i t (ipI r), fun j => ?_, fun B F H ρ σ D hp R h => ?_⟩
  · obtain ⟨h1, h2, h3⟩ := ok.asg j i x hx
    exact ps_aug (i := i) (by rw [ok.hN j]; exact ok.nd) (by rw [ok.hN j]; exact h1) h2 (pt j) (hr j) h3
  · unfold M.aug at h
    rcases hr1 : ρ[i]? with _ | (_ | d)
    · simp only [hr1] at h; exact h.elim
    · simp only [hr1] at h; exact h.elim
    · simp only [hr1] at h
      obtain ⟨v, h1, h2⟩ := R.vars i d hr1
      have h2 := R.read hr1 h1
      refine ⟨v, h1, s B F H ρ σ _ R ((SPost.of h).imp fun dy ρ1 F1 H1 R1 S1 k w hw => ?_)⟩
      rw [hf] at k
      match d, dy, h2, hw, k with
      | .int a, .int b, h2, .int _, k =>
        rw [h2.int]
        exact ⟨a, b, rfl, rfl, k F1 H1 _ (R1.set (pins_ne hp hi) (.int _)) (Le.refl _)⟩
      | .non, _, _, _, k => exact k.elim
      | .bl _, _, _, _, k => exact k.elim
      | .str _, _, _, _, k => exact k.elim
      | .tup _, _, _, _, k => exact k.elim
      | .lst _, _, _, _, k => exact k.elim
      | .scr _, _, _, _, k => exact k.elim
      | .obj _ _ _, _, _, _, k => exact k.elim
      | .dic _ _, _, _, _, k => exact k.elim
      | .set _, _, _, _, k => exact k.elim
      | .int _, .non, _, _, k => exact k.elim
      | .int _, .bl _, _, _, k => exact k.elim
      | .int _, .str _, _, _, k => exact k.elim
      | .int _, .tup _, _, _, k => exact k.elim
      | .int _, .lst _, _, _, k => exact k.elim
      | .int _, .scr _, _, _, k => exact k.elim
      | .int _, .obj _ _ _, _, _, k => exact k.elim
      | .int _, .dic _ _, _, _, k => exact k.elim
      | .int _, .set _, _, _, k => exact k.elim
/-- -x -/
def negO : D → Out D
  | .int a => .ok (.int (-a))
  | _ => .bad
theorem de_neg {oa : Env → Out (D × Env)} (ha : DE C μ a oa) : DE C μ (.UnaryOp .USub a pos) (M.map negO oa) := by
  obtain ⟨ta, pa, sa⟩ := ha
  refine ⟨_, fun j => pe_un un_neg (pa j), fun B F H ρ σ Q R h => sa B F H ρ σ _ R ((Post.bnd h).imp fun d ρ1 F1 H1 R1 S1 k v hv => ?_)⟩
  cases hv with
  | int n => exact ⟨n, rfl, k.now R1 _ (.int _)⟩
  | _ => exact k.elim
/-- a truth value of a list, a tuple, a number -/
def truO : D → Out Bool
  | .lst ds => .ok (!ds.isEmpty)
  | .tup ds => .ok (!ds.isEmpty)
  | .int i => .ok (i != 0)
  | .bl b => .ok b
  | .non => .ok false
  | _ => .bad
theorem dt_tru (ok : C.Ok) {oa : Env → Out (Arg × Env)} (he : ∀ (j : ι) (whole : Sem Value), isTrue e (C.X j).env whole = (do let v ← whole; standAt e.pos; holding [v] (truthy v))) (ha : DO C μ e oa) : DT C μ e (M.op1 truO oa) := by
  obtain ⟨ta, pa, sa⟩ := ha
  refine ⟨fun σ H Q => ta σ H fun x H' => ∃ k, TruV C.g.K x H' k ∧ Q k H', fun j => by rw [← ok.hK j]; exact pt_truth (pa j) (he j), fun B F H ρ σ Q R h => sa B F H ρ σ _ R ((Post.bnd h).imp fun x ρ1 F1 H1 R1 S1 k v hv => ?_)⟩
  have k : Post C B F1 H1 μ σ ((get x ρ1).bind fun d => (truO d).bind fun r => .ok (r, ρ1)) _ := k
  cases ex : get x ρ1 with
  | exc z => exact absurd ex (get_ne _ _ _)
  | bad => rw [ex] at k; exact k.elim
  | ok d =>
    rw [ex] at k
    have rd := R1.arg hv ex
    have emp : ∀ {vs : List V} {ds : List D}, IsAll C.g F1 vs ds → (!ds.isEmpty) = !vs.isEmpty := fun t => by cases t <;> rfl
    cases d with
    | lst ds =>
      obtain ⟨a, vs, rfl, ha, t⟩ := rd.lst R1.sub
      exact ⟨!ds.isEmpty, .inl ⟨vs, SqL.of ha, emp t⟩, k.now R1⟩
    | tup ds =>
      obtain ⟨a, vs, rfl, ha, t⟩ := rd.tup R1.sub
      exact ⟨!ds.isEmpty, .inr (.inl ⟨vs, ha, emp t⟩), k.now R1⟩
    | int i => rw [rd.int]; exact ⟨_, rfl, k.now R1⟩
    | bl i => rw [rd.bl]; exact ⟨_, rfl, k.now R1⟩
    | non => rw [rd.non]; exact ⟨_, rfl, k.now R1⟩
    | _ => exact k.elim
/-- a op b op' c -/
def chainK (f' : D → D → Out D) (oc : Env → Out (Arg × Env)) (y : Arg) (ρ : Env) : D → Out (D × Env)
  | .bl true => (oc ρ).bind fun r => (get y r.2).bind fun y' => (get r.1 r.2).bind fun z => (f' y' z).bind fun d => .ok (d, r.2)
  | .bl false => .ok (.bl false, ρ)
  | _ => .bad
def M.chain (f f' : D → D → Out D) (oa ob oc : Env → Out (Arg × Env)) : Env → Out (D × Env) := fun ρ => (oa ρ).bind fun p => (ob p.2).bind fun q => (get p.1 q.2).bind fun x => (get q.1 q.2).bind fun y => (f x y).bind (chainK f' oc q.1 q.2)
end
end PyD

set_option Elab.async false
set_option linter.all false
set_option maxRecDepth 100000
/-! enumerate(x) of a list or a tuple, its pairs known exactly. -/
namespace L2X
open PySem PySem.Spec PyProof.Rows L2

set_option maxHeartbeats 1000000 in
theorem meetsEn {v : Value} {o : Obj} {W : Heap → Prop} (B : Begins v o W) :
    Meets (Builtin.«enumerate.__new__» ⟨[.type "enumerate", v], []⟩) (fun _ R s => W s.heap ∧
      R (.ok (.ret (.ref (s.heap.push o).objs.size))) { s with heap := (s.heap.push o).push { cls := .type "enumerate", data := .fields #[.none, .bool false, .ref s.heap.objs.size, rawInt 0, .none, .none] } }) :=
  .of_wp fun prog w A R s h => by
    obtain ⟨hp, g, d, tk, os⟩ := s
    obtain ⟨h1, h⟩ := h
    have hsub := sub_enumerate
    have q1 : ∀ {A' : Around} {E : Value → Shared → Prop} {Q : Value → Shared → Prop}, Q (.ref hp.objs.size) ⟨hp.push o, g, d, tk, os⟩ → wpAny (model prog w) A' (pyIter v) Q E ⟨hp, g, d, tk, os⟩ :=
      fun q => B.iter prog w _ _ ⟨hp, g, d, tk, os⟩ _ h1 q
    wp_walk using q1
    refine wpAny_stack_any fun st => wpAny_pure ?_
    split
    · rename_i c _ _ _ _ _
      cases (c == Value.type "enumerate") <;> (wp_walk using q1; exact ⟨_, rfl, h⟩)
    · wp_walk using q1
      exact ⟨_, rfl, h⟩
section
variable {prog : Program} {w : World} {A : Around} {E : Value → Shared → Prop} {s : Shared}
theorem call_en {v : Value} {o : Obj} {W : Heap → Prop} {Q : Value → Shared → Prop} (B : Begins v o W) (h1 : W s.heap)
    (h : ∀ h', IsEnum h' (s.heap.objs.size + 1) s.heap.objs.size 0 .none → h'.get? s.heap.objs.size = some o → h'.objs.size = s.heap.objs.size + 2 →
      (∀ b o, s.heap.get? b = some o → h'.get? b = some o) → Q (.ref (s.heap.objs.size + 1)) { s with heap := h' }) :
    wpAny (model prog w) A (call (.type "enumerate") [v]) Q E s := by
  refine callType_new F.called_enumerate (by decide) (F.typeCall_enumerate_1 _) (F.newCall_enumerate_1 _) (fun obj => F.args_object_init_2 obj _) F.entry_enumerate_new (meetsEn B) ⟨h1, ?_⟩
  have hz : (s.heap.push o).objs.size = s.heap.objs.size + 1 := Heap.size_push ..
  show _ ∧ _
  rw [hz]
  have he : IsEnum ((s.heap.push o).push { cls := .type "enumerate", data := .fields #[.none, .bool false, .ref s.heap.objs.size, rawInt 0, .none, .none] }) (s.heap.objs.size + 1) s.heap.objs.size 0 .none := by
    have := Heap.get?_push_size (s.heap.push o) (o := { cls := .type "enumerate", data := .fields #[.none, .bool false, .ref s.heap.objs.size, rawInt 0, .none, .none] }) rfl
    rw [hz] at this
    exact this
  exact ⟨⟨_, he, rfl⟩, h _ he (Heap.get?_push_of_some _ (Heap.get?_push_size _ B.free)) (by rw [Heap.size_push, hz]) fun b o x => Heap.get?_push_of_some _ (Heap.get?_push_of_some _ x)⟩
end
/-- the pairs (i, item) of what SQ says stands -/
def ItE (SQ : Hp → List V → Prop) : It :=
  ⟨fun i H => ∃ (xs : List V) (x : V), SQ H xs ∧ xs[i]? = some x,
   fun i H v H' => ∃ T o x, v = .ref T ∧ H T = none ∧ TupOb o ∧ H' = upd H T (.frz o (.tup [.int (i : Nat), x])) ∧ ∀ xs, SQ H xs → xs[i]? = some x,
   fun i H => ∃ xs : List V, SQ H xs ∧ xs.length ≤ i⟩
section
variable {P : Program} {w : World} {K : PySem.W.Frag} {elts : List Expr} {kk : Nat} {tpos : Pos} {e it a : Addr}
/-- what both kinds share: St, the record's state; SQ, the items -/
theorem turnE {SQ : Hp → List V → Prop} {St : Nat → Heap → Prop} {Is' : Heap → Array Value → Prop} (hne : e ≠ it)
    (hobj : ∀ i h, St i h → ∃ o, h.get? it = some o ∧ ∀ v, o.data ≠ .cell v)
    (hkeep : ∀ i h h', St i h → (∀ o, h.get? it = some o → h'.get? it = some o) → St i h')
    (hsq : ∀ (X : Cx), X.K = K → ∀ (pins : List (Addr × Obj)) (σ : L2.St) (H : Hp) (s : Shared) xs, Inv X pins σ H s → SQ H xs → (∃ its : List Value, Vals xs its ∧ Is' s.heap its.toArray) ∧ ∀ ys, SQ H ys → ys = xs)
    (hdr : ∀ (A : Around) (h : Heap) (its : Array Value) i, A.handled = none → St i h → Is' h its → (∃ old, IsEnum h e it (i : Nat) old) → ∃ (fp : List Addr) (S2 : Nat → Heap → Prop), e ∉ fp ∧ Draws P w A.in1 it fp its.size (fun i v => its[i]? = some v) S2 ∧ S2 i h ∧ ∀ j h', S2 j h' → St j h')
    (hdn : ∀ (A : Around) (h : Heap) (its : Array Value) i, A.handled = none → St i h → Is' h its → its.size ≤ i → ∃ (fp : List Addr) (Pv : Nat → Value → Prop) (S2 : Nat → Heap → Prop), Draws P w A.in1 it fp i Pv S2 ∧ S2 i h) :
    Turn P w K (.Tuple elts kk tpos) (ItE SQ) [e, it] e (fun i h => (∃ old, IsEnum h e it ((i : Nat) : Int) old) ∧ St i h ∧ e ≠ it) where
  mem := by simp
  obj := fun i h st b hb => by
    obtain ⟨⟨old, he⟩, hs, _⟩ := st
    rcases List.mem_cons.mp hb with z | z
    · rw [z]; exact ⟨_, he, fun v q => nomatch q⟩
    · rw [List.mem_singleton.mp z]; exact hobj _ _ hs
  keep := fun i h h' st k => let ⟨⟨old, he⟩, hs, q⟩ := st; ⟨⟨old, k e (by simp) _ he⟩, hkeep _ _ _ hs (fun o z => k it (by simp) o z), q⟩
  item := by
    intro X hP hw hK hc i pins s σ H E I hf st hg
    subst hP hw
    obtain ⟨⟨old, he⟩, hs, _⟩ := st
    obtain ⟨xs, x, hq, hx⟩ := hg
    obtain ⟨⟨its, rv, hi⟩, uq⟩ := hsq X hK pins σ H s xs I hq
    obtain ⟨u, hu, ru⟩ := rv.get hx
    obtain ⟨fp, S2, hef, D, hS2, hb⟩ := hdr X.A s.heap its.toArray i (I.ok.hd hc) hs hi ⟨old, he⟩
    have hlt : i < its.toArray.size := by rw [List.size_toArray]; exact (List.getElem?_eq_some_iff.mp hu).1
    have hel : e < s.heap.objs.size := Heap.lt_size he
    have hil : it < s.heap.objs.size := by obtain ⟨o, q, _⟩ := hobj _ _ hs; exact Heap.lt_size q
    refine wpAny_pyNext_enum_itemD D he hS2 hlt hne hef fun x' h' tk hx' ho hS' hT hsz hk => ?_
    have xu : x' = u := by
      have h1 : its[i]? = some x' := by simpa using hx'
      rw [hu] at h1; exact (Option.some.inj h1).symm
    subst xu
    refine ⟨_, rfl, wpAny_letOwnedTupleGo_enum (s := { s with heap := h', toks := tk + 1 }) ho fun h'' he' sb => ?_⟩
    have hT2 : h''.get? s.heap.objs.size = some { cls := .type "tuple", data := .seq #[.int i tk, x'] } := (sb.2 _ (Nat.ne_of_gt hel)).trans hT
    have new : ObjOk X.prog X.w (upd H s.heap.objs.size (.frz { cls := .type "tuple", data := .seq #[.int i tk, x'] } (.tup [.int (i : Nat), x]))) h'' s.heap.objs.size (.frz { cls := .type "tuple", data := .seq #[.int i tk, x'] } (.tup [.int (i : Nat), x])) :=
      ⟨hT2, by show 2 ≤ sizeLine; decide, [.int i tk, x'], .cons ⟨_, rfl⟩ (.cons ru .nil), ⟨_, hT2, rfl, _, rfl⟩⟩
    have I1 : Inv X pins σ (upd H s.heap.objs.size (.frz { cls := .type "tuple", data := .seq #[.int i tk, x'] } (.tup [.int (i : Nat), x]))) { s with heap := h'', toks := tk + 1 } :=
      I.turnedNew (ch := [e, it]) (fun b ob hb q => (sb.2 b (fun z => hb (by simp [z]))).trans (hk b ob (fun z => hb (by simp [z])) (fun z => hb (by simp [z])) q)) hf (Nat.le_refl _) new
    refine ⟨.ref s.heap.objs.size, _, I1, rfl, ⟨_, _, x, rfl, I.hok.fresh (Nat.le_refl _), ⟨rfl, rfl⟩, rfl, fun ys hy => by rw [uq ys hy]; exact hx⟩, ⟨⟨x', ?_⟩, hkeep _ _ _ (hb _ _ hS') fun o q => (sb.2 it (Ne.symm hne)).trans q, hne⟩, fun b hb => ?_⟩
    · have e1 : ((i + 1 : Nat) : Int) = (i : Int) + 1 := by omega
      rw [e1]; exact he'
    · have hb' : b < s.heap.objs.size := by
        rcases List.mem_cons.mp hb with z | z
        · rw [z]; exact hel
        · rw [List.mem_singleton.mp z]; exact hil
      rw [upd_ne (Nat.ne_of_lt hb')]
      exact (hf b hb).1
  done := by
    intro X hP hw hK hc i pins s σ H E I hf st hg
    subst hP hw
    obtain ⟨⟨old, he⟩, hs, _⟩ := st
    obtain ⟨xs, hq, hx⟩ := hg
    obtain ⟨⟨its, rv, hi⟩, uq⟩ := hsq X hK pins σ H s xs I hq
    obtain ⟨f0, f1, f2, f3, f4, f5⟩ := hf it (by simp)
    have hl := rv.length
    obtain ⟨fp, Pv, S2, D, hS2⟩ := hdn X.A s.heap its.toArray i (I.ok.hd hc) hs hi (by simp; omega)
    exact wpAny_pyNext_enum_endD D he hS2 fun h' eb => ⟨rfl, I.turned (t' := s.toks) (fun b o hb q => eb b o hb q) f0 f1 f3 f4 f5⟩
  self := fun A i s Q E st h => let ⟨⟨_, he⟩, _⟩ := st; wpAny_pyIter_enum he h
theorem turn_enL (hne : e ≠ it) : Turn P w K (.Tuple elts kk tpos) (ItE fun H xs => SqL K H a xs) [e, it] e (fun i h => (∃ old, IsEnum h e it ((i : Nat) : Int) old) ∧ h.IsListIter it a i ∧ e ≠ it) := by
  refine turnE (Is' := fun h its => h.IsList a its) hne (fun i h st => ?_) (fun i h h' st k => st.at k) (fun X hK pins σ H s xs I h => ?_) (fun A h its i hh st hi he => ?_) (fun A h its i hh st hi hz => ?_)
  · obtain ⟨o, ho, hc, hd⟩ := st
    exact ⟨o, ho, fun v q => by rw [hd] at q; cases q⟩
  · subst hK
    obtain ⟨its, rv, p, hz⟩ := I.list h
    exact ⟨⟨its, rv, p.isList⟩, fun ys hy => I.list_inj hy h⟩
  · obtain ⟨o, ho, hc, _⟩ := id st
    obtain ⟨o2, ho2, hc2, _⟩ := id hi
    obtain ⟨old, he⟩ := he
    have n1 : a ≠ it := fun z => by subst z; rw [ho] at ho2; cases ho2; have q := hc.symm.trans hc2; simp at q
    have n2 : a ≠ e := fun z => by subst z; rw [show h.get? a = _ from he] at ho2; cases ho2; simp at hc2
    exact ⟨[it, a], _, by simp only [List.mem_cons, List.not_mem_nil, or_false, not_or]; exact ⟨hne, Ne.symm n2⟩, Draws.list (A := A.in1) hh it a n1 its, ⟨st, hi⟩, fun j h' x => x.1⟩
  · refine ⟨[it, a], fun _ _ => True, fun k h => k = i ∧ h.IsListIter it a i ∧ h.IsList a its, ⟨fun _ _ x => let ⟨o, q, _⟩ := x.2.1; ⟨o, q⟩, fun k h h' x hk => ⟨x.1, x.2.1.at fun o e => hk it (by simp) o e, x.2.2.at fun o e => hk a (by simp) o e⟩, fun k s Q E hk x => absurd x.1 (Nat.ne_of_lt hk), fun s Q E x hE => ?_⟩, rfl, st, hi⟩
    exact wpAny_nextOf_list_end (A := A.in1) hh x.2.1 x.2.2 (Array.getElem?_eq_none hz) hE
theorem turn_enT (hne : e ≠ it) : Turn P w K (.Tuple elts kk tpos) (ItE fun H xs => SqT K H a xs) [e, it] e (fun i h => (∃ old, IsEnum h e it ((i : Nat) : Int) old) ∧ h.IsTupleIter it a i ∧ e ≠ it) := by
  refine turnE (Is' := fun h its => h.IsTuple a its) hne (fun i h st => ?_) (fun i h h' st k => st.at k) (fun X hK pins σ H s xs I h => ?_) (fun A h its i hh st hi he => ?_) (fun A h its i hh st hi hz => ?_)
  · obtain ⟨o, ho, hc, hd⟩ := st
    exact ⟨o, ho, fun v q => by rw [hd] at q; cases q⟩
  · subst hK
    obtain ⟨its, rv, p, hz⟩ := I.tuple h
    exact ⟨⟨its, rv, p⟩, fun ys hy => I.tuple_inj hy h⟩
  · obtain ⟨o, ho, hc, _⟩ := id st
    obtain ⟨o2, ho2, hc2, _⟩ := id hi
    obtain ⟨old, he⟩ := he
    have n1 : a ≠ it := fun z => by subst z; rw [ho] at ho2; cases ho2; have q := hc.symm.trans hc2; simp at q
    have n2 : a ≠ e := fun z => by subst z; rw [show h.get? a = _ from he] at ho2; cases ho2; simp at hc2
    exact ⟨[it, a], _, by simp only [List.mem_cons, List.not_mem_nil, or_false, not_or]; exact ⟨hne, Ne.symm n2⟩, Draws.tuple (A := A.in1) hh it a n1 its, ⟨st, hi⟩, fun j h' x => x.1⟩
  · refine ⟨[it, a], fun _ _ => True, fun k h => k = i ∧ h.IsTupleIter it a i ∧ h.IsTuple a its, ⟨fun _ _ x => let ⟨o, q, _⟩ := x.2.1; ⟨o, q⟩, fun k h h' x hk => ⟨x.1, x.2.1.at fun o e => hk it (by simp) o e, x.2.2.at fun o e => hk a (by simp) o e⟩, fun k s Q E hk x => absurd x.1 (Nat.ne_of_lt hk), fun s Q E x hE => ?_⟩, rfl, st, hi⟩
    exact wpAny_nextOf_tuple_end (A := A.in1) hh x.2.1 x.2.2 (Array.getElem?_eq_none hz) hE
end
/-- enumerate(x) -/
def iEn (K : PySem.W.Frag) (ta : TA) : TI := fun σ H R => ta σ H fun vs H1 => ∃ a xs, vs = [.ref a] ∧ ((SqL K H1 a xs ∧ R (ItE fun H xs => SqL K H a xs) H1) ∨ (SqT K H1 a xs ∧ R (ItE fun H xs => SqT K H a xs) H1))
theorem pi_en {X : Cx} {e : Expr} {ta : TA} {p pos tpos : Pos} {elts : List Expr} {kk : Nat} (hg : Gl X "enumerate") (hm : X.mg "enumerate" = none) (ha : PA X [e] ta) (hs : starEach [e] X.env = [(false, eval e X.env)]) :
    PI X (.Tuple elts kk tpos) (.Call (.Name "enumerate" p) [e] [] pos) (iEn X.K ta) := by
  refine ⟨fun pins s σ H R I h => ?_⟩
  refine Call_ (ld_blt I hg hm boot_enumerate (PyProof.Rows.callWith_type1 (thn (ha.run pos pins s σ H _ I h) fun us s1 ⟨vs, H1, I1, r1, q1⟩ => ?_) hs rfl))
  obtain ⟨a, xs, ex, q⟩ := q1
  subst ex
  cases r1 with
  | cons r rr =>
    cases rr
    cases r
    have fp : ∀ b ∈ [s1.heap.objs.size + 1, s1.heap.objs.size], FpOk X pins H1 b := fun b hb => by
      have hle : s1.heap.objs.size ≤ b := by
        rcases List.mem_cons.mp hb with z | z
        · rw [z]; exact Nat.le_add_right _ _
        · rw [List.mem_singleton.mp z]; exact Nat.le_refl _
      exact I1.fpOk hle (I1.hok.fresh hle)
    rcases q with ⟨hq, q⟩ | ⟨hq, q⟩
    · obtain ⟨its, rv, p', hz⟩ := I1.list hq
      refine call_en (begins_list a its.toArray) p'.isList fun h' he hit hsz hk => wpAny_pyIter_enum he ?_
      have I2 : Inv X pins σ H1 { s1 with heap := h' } := I1.kept (t' := s1.toks) hk
      exact ⟨s1.heap.objs.size + 1, [s1.heap.objs.size + 1, s1.heap.objs.size], _, _, H1, rfl, I2, turn_enL (Nat.succ_ne_self _), ⟨⟨.none, he⟩, ⟨_, hit, rfl, rfl⟩, Nat.succ_ne_self _⟩, fp, q⟩
    · obtain ⟨its, rv, p', hz⟩ := I1.tuple hq
      refine call_en (begins_tuple a its.toArray) p' fun h' he hit hsz hk => wpAny_pyIter_enum he ?_
      have I2 : Inv X pins σ H1 { s1 with heap := h' } := I1.kept (t' := s1.toks) hk
      exact ⟨s1.heap.objs.size + 1, [s1.heap.objs.size + 1, s1.heap.objs.size], _, _, H1, rfl, I2, turn_enT (Nat.succ_ne_self _), ⟨⟨.none, he⟩, ⟨_, hit, rfl, rfl⟩, Nat.succ_ne_self _⟩, fp, q⟩
end L2X

namespace PyD
open PySem L2 L2X PyProof.Rows
section
variable {ι : Type} {C : Ctx ι} {μ : List Md} {e : Expr} {pos p tpos : Pos} {x : Str} {g : G} {B : Base} {F H : Hp} {elts : List Expr} {kk : Nat}
theorem iter_en {SQ : Hp → List V → Prop} {vs : List V} {ds : List D} (t : IsAll g F vs ds) (h : ∀ F1 H1, Le F F1 → Bx B F1 H1 → SQ H1 vs) : Iter g B (ItE SQ) F (ds.zipIdx.map fun q => D.tup [.int (q.2 : Nat), q.1]) where
  go := fun F1 H1 l b i d e => by
    rw [List.getElem?_map, List.getElem?_zipIdx] at e
    cases ed : ds[i]? with
    | none => rw [ed] at e; cases e
    | some d0 =>
      rw [ed] at e
      cases e
      obtain ⟨v, hv, hi⟩ := t.get ed
      refine ⟨⟨vs, v, h F1 H1 l b, hv⟩, fun x H2 hy => ?_⟩
      obtain ⟨T, o, x', rfl, hn, ho, rfl, hy⟩ := hy
      have := hy vs (h F1 _ l b)
      rw [hv] at this; cases this
      have hF : F1 T = none := (b.fresh hn).1
      refine ⟨upd F1 T (.frz o (.tup [.int (i : Nat), v])), ?_, .inr ⟨T, _, hn, rfl, rfl⟩⟩
      refine .tup (.inl ⟨o, upd_same, ho⟩) (.cons ?_ (.cons (hi.mono (l.trans (Le.upd hF))) .nil))
      show Is g _ (V.int (i : Nat)) (D.int ((0 + i : Nat) : Int))
      rw [Nat.zero_add]
      exact .int _
  stop := fun F1 H1 l b => ⟨vs, h F1 H1 l b, by rw [List.length_map, List.length_zipIdx, t.length]; exact Nat.le_refl _⟩
def enD (ds : List D) : List D := ds.zipIdx.map fun q => D.tup [.int (q.2 : Nat), q.1]
def M.ien (i : Nat) : Env → Out (List D × Env) := fun ρ => match ρ[i]? with
  | some (some d) => (walked d).bind fun ds => .ok (enD ds, ρ)
  | _ => .bad
theorem di_en (ok : C.Ok) (i : Nat) (hx : C.vs[i]? = some (some x)) (hm : md μ i ≠ .ow) (hg : ∀ j, Gl (C.X j) "enumerate") (hb : C.g.mg "enumerate" = none) {p2 : Pos}
    (hs : ∀ j, starEach [.Name x p2] (C.X j).env = [(false, eval (.Name x p2) (C.X j).env)] := by intro _; rfl) : DI C μ (.Tuple elts kk tpos) (.Call (.Name "enumerate" p) [.Name x p2] [] pos) (M.ien i) := by
  refine ⟨iEn C.g.K (tCons (tVar i) tNil), fun j => ?_, fun B F H ρ σ R' R h => ?_⟩
  · obtain ⟨h1, h2, h3, h4⟩ := ok.vis j i x hx
    rw [← ok.hK j]
    exact pi_en (hg j) (by rw [ok.hm j]; exact hb) (pa_cons (pe_var (by rw [ok.hN j]; exact h1) h2 h3 h4) pa_nil (hs j)) (hs j)
  · unfold M.ien at h
    rcases hr : ρ[i]? with _ | (_ | d)
    · simp only [hr] at h; exact h.elim
    · simp only [hr] at h; exact h.elim
    · simp only [hr] at h
      obtain ⟨v, h1, h2⟩ := R.vars i d hr
      cases hw : walked d with
      | exc z => exact absurd hw (walked_ne _ _)
      | bad => rw [hw] at h; exact h.elim
      | ok ds =>
        rw [hw] at h
        obtain ⟨a, vs, rfl, t, q | q⟩ := (R.rdB hm hr h1).at hw
        · exact ⟨.ref a, h1, a, vs, rfl, .inl ⟨q F H (Le.refl _) R.toBx, h.now R _ (iter_en t q)⟩⟩
        · exact ⟨.ref a, h1, a, vs, rfl, .inr ⟨q F H (Le.refl _) R.toBx, h.now R _ (iter_en t q)⟩⟩
end
end PyD

set_option Elab.async false
set_option linter.all false
set_option maxRecDepth 100000
/-! len(set(x)) of ints. -/
namespace L2X
open PySem PySem.Spec PyProof.Rows L2
/-- each once, by the first places -/
def dd : List Int → List Int
  | [] => []
  | n :: ns => n :: (dd ns).filter (· ≠ n)
theorem mem_dd : ∀ {ns : List Int} {k : Int}, k ∈ dd ns ↔ k ∈ ns
  | [], k => Iff.rfl
  | n :: ns, k => by
    unfold dd
    rw [List.mem_cons, List.mem_cons, List.mem_filter, mem_dd]
    simp only [decide_eq_true_eq]
    by_cases h : k = n
    · simp [h]
    · simp [h]
theorem dd_nodup : ∀ ns : List Int, (dd ns).Nodup
  | [] => List.nodup_nil
  | n :: ns => by
    unfold dd
    refine List.nodup_cons.mpr ⟨fun h => ?_, List.Nodup.sublist List.filter_sublist (dd_nodup ns)⟩
    have := (List.mem_filter.mp h).2
    simp at this
theorem nodup_len : ∀ {a b : List Int}, a.Nodup → b.Nodup → (∀ k, k ∈ a ↔ k ∈ b) → a.length = b.length
  | [], [], _, _, _ => rfl
  | [], y :: b, _, _, h => absurd ((h y).mpr List.mem_cons_self) (by simp)
  | x :: a, b, ha, hb, h => by
    have ha' := List.nodup_cons.mp ha
    have hx : x ∈ b := (h x).mp List.mem_cons_self
    have e := List.length_erase_of_mem hx
    have pos : 0 < b.length := List.length_pos_of_mem hx
    have := nodup_len (a := a) (b := b.erase x) ha'.2 (List.Nodup.erase x hb) fun k => by
      rw [List.Nodup.mem_erase_iff hb]
      constructor
      · intro hk
        exact ⟨fun q => ha'.1 (q ▸ hk), (h k).mp (List.mem_cons_of_mem _ hk)⟩
      · rintro ⟨n, hk⟩
        rcases List.mem_cons.mp ((h k).mpr hk) with q | q
        · exact absurd q n
        · exact q
    rw [List.length_cons, this, e]; omega
theorem firstMet_ok (ns : List Int) : ∀ i, i ≤ ns.length → (firstMet (fun i => ns.getD i 0) i).Nodup ∧ ∀ k, k ∈ firstMet (fun i => ns.getD i 0) i ↔ k ∈ ns.take i
  | 0, _ => by unfold firstMet; simp
  | i + 1, hi => by
    obtain ⟨h1, h2⟩ := firstMet_ok ns i (by omega)
    have e : firstMet (fun i => ns.getD i 0) (i + 1) = step_dedup (firstMet (fun i => ns.getD i 0) i) (ns.getD i 0) := by
      unfold firstMet
      rw [List.range_succ, List.map_append, List.foldl_append]
      rfl
    have et : ns.take (i + 1) = ns.take i ++ [ns.getD i 0] := by
      rw [List.take_succ, List.getD_eq_getElem?_getD]
      have : ns[i]? = some (ns[i]'(by omega)) := List.getElem?_eq_getElem _
      rw [this]; rfl
    rw [e, et]
    unfold step_dedup
    split
    · rename_i hany
      refine ⟨h1, fun k => ?_⟩
      rw [h2 k, List.mem_append, List.mem_singleton]
      constructor
      · exact .inl
      · rintro (hk | rfl)
        · exact hk
        · obtain ⟨y, hy, e⟩ := List.any_eq_true.mp hany
          have : y = ns.getD i 0 := by simpa using e
          rw [← this]
          exact (h2 y).mp hy
    · rename_i hany
      refine ⟨?_, fun k => by rw [List.mem_append, List.mem_append, h2 k]⟩
      rw [List.nodup_append]
      refine ⟨h1, by simp, fun x hx y hy => ?_⟩
      rw [List.mem_singleton] at hy
      subst hy
      intro q
      exact hany (List.any_eq_true.mpr ⟨x, hx, by simpa using q⟩)
section
variable {X : Cx} {a : Expr} {ta : TE} {p p2 q pos : Pos}
def tLenSetX (K : PySem.W.Frag) (ta : TE) : TE := fun σ H Q => ta σ H fun x H1 => ∃ (l : Addr) (ns : List Int), x = .ref l ∧ (SqL K H1 l (ns.map V.int) ∨ SqT K H1 l (ns.map V.int)) ∧ ns.length ≤ 1000 ∧ Q (.int ((dd ns).length : Nat)) H1
theorem pe_lenSetX (hg : Gl X "len") (hm : X.mg "len" = none) (hg2 : Gl X "set") (hm2 : X.mg "set" = none) (ha : PE X a ta) (hc : X.calm = true)
    (na : starEach [a] X.env = (false, eval a X.env) :: starEach [] X.env) : PE X (.Call (.Name "len" p) [.Call (.Name "set" p2) [a] [] q] [] pos) (tLenSetX X.K ta) := by
  refine ⟨fun pins s σ H Q I h => ?_⟩
  refine Call_ (ld_blt I hg hm boot_len ?_)
  refine PyProof.Rows.callWith_builtin1 (PyProof.Rows.args_cons ?_ rfl) rfl rfl
  refine Call_ (ld_blt I hg2 hm2 boot_set ?_)
  refine PyProof.Rows.callWith_type1 (PyProof.Rows.args_cons (thn (ha.run pins s σ H _ I h) fun v s1 ⟨x, H1, I1, r1, q1⟩ => PyProof.Rows.args_nil ?_) na) na rfl
  obtain ⟨l, ns, rfl, hq, hl, q1⟩ := q1
  cases r1
  rcases hq with hq | hq
  · obtain ⟨its, r, pl, hz⟩ := I1.list hq
    have hlen : its.toArray.size = ns.length := by rw [List.size_toArray, ← r.length, List.length_map]
    refine call_set_list (I1.ok.hd hc) pl.isList (by simpa using Vals.ints r) (by rw [hlen]; unfold scanBound; omega) fun h' tk hS hk => ?_
    refine PyProof.Rows.args_nil ?_
    rw [hlen] at hS
    obtain ⟨f1, f2⟩ := firstMet_ok ns ns.length (Nat.le_refl _)
    have hn1 : (firstMet (fun i => ns.getD i 0) ns.length).length = (dd ns).length := nodup_len f1 (dd_nodup ns) fun k => by rw [f2 k, List.take_length, mem_dd]
    have hdl : (dd ns).length ≤ 1000 := by
      have : ∀ l : List Int, (dd l).length ≤ l.length := fun l => by
        induction l with
        | nil => exact Nat.le_refl _
        | cons x l ih => unfold dd; rw [List.length_cons, List.length_cons]; exact Nat.succ_le_succ (Nat.le_trans (List.length_filter_le _ _) ih)
      exact Nat.le_trans (this ns) hl
    obtain ⟨o, es, ep, t, ho, hex, hd, _, _, _, hf, hn⟩ := hS
    rw [hn1] at hn
    have I2 : Inv X pins σ H1 { s1 with heap := h', toks := tk } := I1.kept fun b o e => hk b o (Heap.lt_size e) e
    exact call_len_set ho hex hd hf (by rw [hn] <;> omega) ⟨.int (dd ns).length, H1, I2.tok _, ⟨_, by rw [hn]⟩, q1⟩
  · obtain ⟨its, r, pl, hz⟩ := I1.tuple hq
    refine call_set_tupI ns (I1.ok.hd hc) pl (by simpa using Vals.ints r) (by unfold scanBound; omega) fun h' tk c hS hcl hk => ?_
    refine PyProof.Rows.args_nil ?_
    obtain ⟨o, es, ep, t, ho, hex, hd, _, hnd, hmem, _, hf, hn, _⟩ := hS
    have hn1 : es.size = (dd ns).length := by
      rw [← Array.length_toList, ← List.length_map (f := keyOf)]
      exact nodup_len hnd (dd_nodup ns) fun k => by rw [← hmem k, decide_eq_true_eq, mem_dd]
    have I2 : Inv X pins σ H1 { s1 with heap := h', toks := tk } := I1.kept hk
    exact call_len_set ho hex hd hf (by rw [hn] <;> omega) ⟨.int (dd ns).length, H1, I2.tok _, ⟨_, by rw [hn1]⟩, q1⟩
end
end L2X

namespace PyD
open PySem L2 L2X PyProof.Rows
section
variable {ι : Type} {C : Ctx ι} {μ : List Md} {e a b c : Expr} {es : List Expr} {pos p p2 p3 q : Pos} {x : Str} {g : G} {B : Base} {F H : Hp} {ρ : Env} {σ : L2.St}
def lenSetO (d : D) : Out D := (items d).bind fun ds => match ints? ds with
  | some ns => if ns.length ≤ 1000 then .ok (.int ((dd ns).length : Nat)) else .bad
  | none => .bad
theorem lenSetO_ok {d r : D} (h : lenSetO d = .ok r) : ∃ ds ns, items d = .ok ds ∧ ints? ds = some ns ∧ ns.length ≤ 1000 ∧ r = .int ((dd ns).length : Nat) := by
  unfold lenSetO at h
  cases ei : items d with
  | exc z => exact absurd ei (items_ne _ _)
  | bad => rw [ei] at h; cases h
  | ok ds =>
    rw [ei, Out.bind_ok] at h
    cases en : ints? ds with
    | none => rw [en] at h; cases h
    | some ns =>
      rw [en] at h
      by_cases hl : ns.length ≤ 1000
      · simp only [if_pos hl] at h; cases h; exact ⟨ds, ns, rfl, en, hl, rfl⟩
      · simp only [if_neg hl] at h; cases h
theorem lenSetO_ne (d : D) (z : Exc) : lenSetO d ≠ .exc z := by
  unfold lenSetO
  intro h
  cases ei : items d with
  | exc z => exact absurd ei (items_ne _ _)
  | bad => rw [ei] at h; cases h
  | ok ds =>
    rw [ei, Out.bind_ok] at h
    cases en : ints? ds with
    | none => rw [en] at h; cases h
    | some ns =>
      rw [en] at h
      by_cases hl : ns.length ≤ 1000
      · simp only [if_pos hl] at h; cases h
      · simp only [if_neg hl] at h; cases h
theorem de_lenSet (ok : C.Ok) {oa : Env → Out (Arg × Env)} (hg : ∀ j, Gl (C.X j) "len") (hm : C.g.mg "len" = none) (hg2 : ∀ j, Gl (C.X j) "set") (hm2 : C.g.mg "set" = none) (ha : DO C μ e oa)
    (na : ∀ j, starEach [e] (C.X j).env = (false, eval e (C.X j).env) :: starEach [] (C.X j).env := by intro _; rfl) : DE C μ (.Call (.Name "len" p) [.Call (.Name "set" p2) [e] [] q] [] pos) (M.op1 lenSetO oa) := by
  obtain ⟨ta, pa, sa⟩ := ha
  refine ⟨tLenSetX C.g.K ta, fun j => by rw [← ok.hK j]; exact pe_lenSetX (hg j) (by rw [ok.hm j]; exact hm) (hg2 j) (by rw [ok.hm j]; exact hm2) (pa j) (ok.calm j) (na j), fun B F H ρ σ Q R h => sa B F H ρ σ _ R ((Post.bnd h).imp fun x ρ1 F1 H1 R1 S1 k v hv => ?_)⟩
  have k : Post C B F1 H1 μ σ ((get x ρ1).bind fun d => (lenSetO d).bind fun r => .ok (r, ρ1)) _ := k
  cases ex : get x ρ1 with
  | exc z => exact absurd ex (get_ne _ _ _)
  | bad => rw [ex] at k; exact k.elim
  | ok d =>
    rw [ex, Out.bind_ok] at k
    have rd := R1.arg hv ex
    cases el : lenSetO d with
    | exc z => exact absurd el (lenSetO_ne _ _)
    | bad => rw [el] at k; exact k.elim
    | ok r =>
      rw [el, Out.bind_ok] at k
      obtain ⟨ds, ns, ei, en, hl, rfl⟩ := lenSetO_ok el
      obtain ⟨l, vs, rfl, hq, t⟩ := rd.items R1.sub ei
      rw [ints?_eq en] at t
      exact ⟨l, ns, rfl, by rw [← t.toInts]; exact hq, hl, k.now R1 _ (.int _)⟩

/-! ### isinstance -/
inductive Ty where
  | int | bool | str | tuple | list
def Ty.name : Ty → String
  | .int => "int"
  | .bool => "bool"
  | .str => "str"
  | .tuple => "tuple"
  | .list => "list"
def isD : Ty → D → Out Bool
  | _, .obj _ _ _ => .bad
  | _, .dic _ _ => .bad
  | _, .set _ => .bad
  | .int, .int _ => .ok true
  | .int, .bl _ => .ok true
  | .bool, .bl _ => .ok true
  | .str, .str _ => .ok true
  | .tuple, .tup _ => .ok true
  | .list, .lst _ => .ok true
  | .list, .scr _ => .ok true
  | _, _ => .ok false
def tyD : D → String
  | .non => "NoneType"
  | .bl _ => "bool"
  | .int _ => "int"
  | .str _ => "str"
  | .tup _ => "tuple"
  | .lst _ => "list"
  | .scr _ => "list"
  | .obj _ _ _ => "object"
  | .dic _ _ => "dict"
  | .set _ => "set"
def tyNames : List String := ["NoneType", "bool", "int", "str", "tuple", "list"]
theorem kit_all : (tyNames.all fun s => [Ty.int, .bool, .str, .tuple, .list].all fun T => decide (kitB s T.name = some (s == T.name || (s == "bool" && T.name == "int")))) = true := by decide +kernel
theorem kit_at {s : String} (hs : s ∈ tyNames) (T : Ty) : kitB s T.name = some (s == T.name || (s == "bool" && T.name == "int")) := by
  have := List.all_eq_true.mp (List.all_eq_true.mp kit_all s hs) T (by cases T <;> simp)
  exact of_decide_eq_true this
theorem isD_kit {T : Ty} {d : D} {b : Bool} (h : isD T d = .ok b) : tyD d ∈ tyNames ∧ kitB (tyD d) T.name = some b := by
  have key : ∀ s, s ∈ tyNames → (s == T.name || (s == "bool" && T.name == "int")) = b → s ∈ tyNames ∧ kitB s T.name = some b := fun s hs e => ⟨hs, by rw [kit_at hs T, e]⟩
  cases d <;> cases T <;> first | (cases h; done) | (refine key _ (by simp [tyD, tyNames]) ?_; cases h; simp [tyD, Ty.name])
theorem RdR.ty {v : V} {d : D} (sub : Le F H) (h : RdR g F H v d) (n : tyD d ∈ tyNames) : TyX g.K H v (.type (tyD d)) := by
  cases d with
  | non => rw [h.non]; exact .base .non
  | bl b => rw [h.bl]; exact .base (.bl b)
  | int b => rw [h.int]; exact .base (.int b)
  | str b => rw [h.str]; exact .base (.str b)
  | tup ds =>
    have h := h.tupF
    cases h with
    | tup r t =>
      rcases r with ⟨o, r, _⟩ | ⟨o, its, n, h1, h2, _⟩
      · exact .fTuple (sub _ _ r)
      · exact .kTuple h1 h2
  | lst ds =>
    obtain ⟨a, vs, rfl, ha, t⟩ := h.lst sub
    exact .base (.lst ha)
  | scr ns =>
    obtain ⟨a, rfl, hq⟩ := h.scr sub
    rcases hq with (hq | ⟨o, hq⟩) | ⟨o, its, n, h1, h2, _⟩
    · exact .base (.lst hq)
    · exact .base (.frz hq)
    · exact .kList h1 h2
  | obj _ _ _ => exact absurd n (by simp [tyD, tyNames])
  | dic _ _ => exact absurd n (by simp [tyD, tyNames])
  | set _ => exact absurd n (by simp [tyD, tyNames])
def M.is (T : Ty) (oa : Env → Out (Arg × Env)) : Env → Out (D × Env) := M.op1 (fun d => (isD T d).bind fun b => .ok (.bl b)) oa
def isD2 (T U : Ty) (d : D) : Out D := (isD T d).bind fun b => (isD U d).bind fun c => .ok (.bl (b || c))
def M.is2 (T U : Ty) (oa : Env → Out (Arg × Env)) : Env → Out (D × Env) := M.op1 (isD2 T U) oa
theorem isD_ne (T : Ty) (d : D) (z : Exc) : isD T d ≠ .exc z := by cases d <;> cases T <;> (intro h; cases h)
theorem de_is (ok : C.Ok) (T : Ty) {oa : Env → Out (Arg × Env)} (hg : ∀ j, Gl (C.X j) "isinstance") (hm : C.g.mg "isinstance" = none) {tn : Str} (hg2 : ∀ j, Gl (C.X j) tn) (hm2 : C.g.mg tn = none) (hb2 : bootBuiltins tn = some (.type T.name)) (ha : DO C μ e oa)
    (hn : tn ≠ "__name__" := by decide) (hd : (tn == ("__debug__" : Str)) = false := by decide)
    (h1 : ∀ j, starEach [e, .Name tn p2] (C.X j).env = (false, eval e (C.X j).env) :: starEach [.Name tn p2] (C.X j).env := by intro _; rfl) (h2 : ∀ j, starEach [.Name tn p2] (C.X j).env = (false, eval (.Name tn p2) (C.X j).env) :: starEach [] (C.X j).env := by intro _; rfl)
    (hpl : ∀ j, (backTo pos (starEach [.Name tn p2] (C.X j).env)).any (·.1) = false := by intro _; rfl) : DE C μ (.Call (.Name "isinstance" p) [e, .Name tn p2] [] pos) (M.is T oa) := by
  obtain ⟨ta, pa, sa⟩ := ha
  refine ⟨tCB (rIsi C.g.K) (tCons ta (tCons (tC (.ty T.name)) tNil)), fun j => ?_, fun B F H ρ σ Q R h => sa B F H ρ σ _ R ((Post.bnd h).imp fun x ρ1 F1 H1 R1 S1 k v hv => ?_)⟩
  · have hc := call_isi (X := C.X j)
    rw [ok.hK j] at hc
    exact pe_callB hc (hg j) (by rw [ok.hm j]; exact hm) (by decide +kernel) (pa_cons (pa j) (pa_cons (pe_bltn (hg2 j) (by rw [ok.hm j]; exact hm2) hb2 rfl hn hd) pa_nil (h2 j)) (h1 j)) (by decide) (by decide) (h1 j) (hpl j)
  · have k : Post C B F1 H1 μ σ ((get x ρ1).bind fun d => ((isD T d).bind fun b => .ok (D.bl b)).bind fun r => .ok (r, ρ1)) _ := k
    cases ex : get x ρ1 with
    | exc z => exact absurd ex (get_ne _ _ _)
    | bad => rw [ex] at k; exact k.elim
    | ok d =>
      rw [ex, Out.bind_ok] at k
      have rd := R1.arg hv ex
      cases ei : isD T d with
      | exc z => exact absurd ei (isD_ne _ _ _)
      | bad => rw [ei] at k; exact k.elim
      | ok b =>
        rw [ei] at k
        obtain ⟨n, kb⟩ := isD_kit ei
        exact ⟨v, .ty T.name, _, .type T.name, b, rfl, .ty _, rd.ty R1.sub n, kit_ty kb, k.now R1 _ (Is.bl _)⟩
theorem RdR.newH {v : V} {d : D} {pp : Addr} {o : HO} (h : RdR g F H v d) (hp : H pp = none) : RdR g F (upd H pp o) v d := by
  rcases h with h | ⟨a, u, rfl, e, c⟩
  · exact .inl h
  · exact .inr ⟨a, u, rfl, by rw [upd_ne (ne_of_none e hp)]; exact e, c⟩
theorem de_is2 (ok : C.Ok) (T U : Ty) {oa : Env → Out (Arg × Env)} (hg : ∀ j, Gl (C.X j) "isinstance") (hm : C.g.mg "isinstance" = none) {tn un : Str} (hg2 : ∀ j, Gl (C.X j) tn) (hm2 : C.g.mg tn = none) (hb2 : bootBuiltins tn = some (.type T.name))
    (hg3 : ∀ j, Gl (C.X j) un) (hm3 : C.g.mg un = none) (hb3 : bootBuiltins un = some (.type U.name)) (ha : DO C μ e oa) {kk : Nat} {q1 q2 q3 : Pos}
    (hn : tn ≠ "__name__" := by decide) (hd : (tn == ("__debug__" : Str)) = false := by decide) (hn' : un ≠ "__name__" := by decide) (hd' : (un == ("__debug__" : Str)) = false := by decide)
    (h1 : ∀ j, starEach [e, .Tuple [.Name tn q1, .Name un q2] kk q3] (C.X j).env = (false, eval e (C.X j).env) :: starEach [.Tuple [.Name tn q1, .Name un q2] kk q3] (C.X j).env := by intro _; rfl)
    (h2 : ∀ j, starEach [.Tuple [.Name tn q1, .Name un q2] kk q3] (C.X j).env = (false, eval (.Tuple [.Name tn q1, .Name un q2] kk q3) (C.X j).env) :: starEach [] (C.X j).env := by intro _; rfl)
    (h3 : ∀ j, starEach [.Name tn q1, .Name un q2] (C.X j).env = (false, eval (.Name tn q1) (C.X j).env) :: starEach [.Name un q2] (C.X j).env := by intro _; rfl) (h4 : ∀ j, starEach [.Name un q2] (C.X j).env = (false, eval (.Name un q2) (C.X j).env) :: starEach [] (C.X j).env := by intro _; rfl)
    (hpl : ∀ j, (backTo pos (starEach [.Tuple [.Name tn q1, .Name un q2] kk q3] (C.X j).env)).any (·.1) = false := by intro _; rfl) : DE C μ (.Call (.Name "isinstance" p) [e, .Tuple [.Name tn q1, .Name un q2] kk q3] [] pos) (M.is2 T U oa) := by
  obtain ⟨ta, pa, sa⟩ := ha
  refine ⟨tCB (rIsiT C.g.K) (tCons ta (tCons (tTup (tCons (tC (.ty T.name)) (tCons (tC (.ty U.name)) tNil))) tNil)), fun j => ?_, fun B F H ρ σ Q R h => sa B F H ρ σ _ R ((Post.bnd h).imp fun x ρ1 F1 H1 R1 S1 k v hv => ?_)⟩
  · have hc := call_isiT (X := C.X j)
    rw [ok.hK j] at hc
    exact pe_callB hc (hg j) (by rw [ok.hm j]; exact hm) (by decide +kernel) (pa_cons (pa j) (pa_cons (pe_tup (pa_cons (pe_bltn (hg2 j) (by rw [ok.hm j]; exact hm2) hb2 rfl hn hd) (pa_cons (pe_bltn (hg3 j) (by rw [ok.hm j]; exact hm3) hb3 rfl hn' hd') pa_nil (h4 j)) (h3 j))) pa_nil (h2 j)) (h1 j)) (by decide) (by decide) (h1 j) (hpl j)
  · refine ⟨by show 2 ≤ sizeLine; decide, fun tp htp => ?_⟩
    have k : Post C B F1 H1 μ σ ((get x ρ1).bind fun d => (isD2 T U d).bind fun r => .ok (r, ρ1)) _ := k
    cases ex : get x ρ1 with
    | exc z => exact absurd ex (get_ne _ _ _)
    | bad => rw [ex] at k; exact k.elim
    | ok d =>
      rw [ex, Out.bind_ok] at k
      have R2 := R1.newH htp (.tup [.ty T.name, .ty U.name])
      have rd := (R1.arg hv ex).newH (o := .tup [.ty T.name, .ty U.name]) htp
      unfold isD2 at k
      cases ei : isD T d with
      | exc z => exact absurd ei (isD_ne _ _ _)
      | bad => rw [ei] at k; exact k.elim
      | ok b =>
        rw [ei, Out.bind_ok] at k
        cases ej : isD U d with
        | exc z => exact absurd ej (isD_ne _ _ _)
        | bad => rw [ej] at k; exact k.elim
        | ok c =>
          rw [ej] at k
          obtain ⟨n, kb⟩ := isD_kit ei
          obtain ⟨_, kc⟩ := isD_kit ej
          have k : Post C B F1 H1 μ σ (.ok (D.bl (b || c), ρ1)) _ := k
          refine ⟨v, tp, [.ty T.name, .ty U.name], _, [.type T.name, .type U.name], b || c, rfl, upd_same, .cons (.ty _) (.cons (.ty _) .nil), rd.ty R2.sub n, kitAny_cons (b := b) (kit_ty kb) (fun hb => ?_) (fun hb => by rw [hb]; rfl), k F1 _ R2 (Step.newH htp) _ (Is.bl _)⟩
          subst hb
          exact kitAny_cons (b := c) (kit_ty kc) (fun hc => by subst hc; exact kitAny_nil) (fun hc => by rw [hc]; rfl)

/-! ### a < b <= c -/
theorem chain_sem {r r' : R2} {f f' : D → D → Out D} (hs : BinS C r f) (hs' : BinS C r' f') {oa ob oc : Env → Out (Arg × Env)} {ta tb tc : TE}
    (sa : ∀ B F H ρ σ Q, Rel C.g B F H μ ρ σ → Post C B F H μ σ (oa ρ) (fun a _ F' H' => ∀ v, ArgR C.g F' σ v a → Q v H') → ta σ H Q)
    (sb : ∀ B F H ρ σ Q, Rel C.g B F H μ ρ σ → Post C B F H μ σ (ob ρ) (fun a _ F' H' => ∀ v, ArgR C.g F' σ v a → Q v H') → tb σ H Q)
    (sc : ∀ B F H ρ σ Q, Rel C.g B F H μ ρ σ → Post C B F H μ σ (oc ρ) (fun a _ F' H' => ∀ v, ArgR C.g F' σ v a → Q v H') → tc σ H Q)
    (B : Base) (F H : Hp) (ρ : Env) (σ : L2.St) (Q : VK) (R : Rel C.g B F H μ ρ σ) (h : Post C B F H μ σ (M.chain f f' oa ob oc ρ) (fun d _ F' H' => ∀ v, Is C.g F' v d → Q v H')) : tChain r r' ta tb tc σ H Q := by
  refine sa B F H ρ σ _ R ((Post.bnd h).imp fun x ρ1 F1 H1 R1 S1 k1 v hv => ?_)
  refine sb B F1 H1 ρ1 σ _ R1 ((Post.bnd k1).imp fun y ρ2 F2 H2 R2 S2 k2 u hu => ?_)
  have hv2 : ArgR C.g F2 σ v x := hv.mono S2.f
  cases ex : get x ρ2 with
  | exc z => exact absurd ex (get_ne _ _ _)
  | bad => simp only [ex] at k2; exact k2.elim
  | ok dx =>
    simp only [ex, Out.bind_ok] at k2
    cases ey : get y ρ2 with
    | exc z => exact absurd ey (get_ne _ _ _)
    | bad => simp only [ey] at k2; exact k2.elim
    | ok dy =>
      simp only [ey, Out.bind_ok] at k2
      replace k2 : Post C B F2 H2 μ σ ((f dx dy).bind (chainK f' oc y ρ2)) (fun d _ F' H' => ∀ v, Is C.g F' v d → Q v H') := k2
      refine hs B F2 H2 μ ρ2 σ v u dx dy _ R2 (R2.arg hv2 ex) (R2.arg hu ey) ?_
      cases ef : f dx dy with
      | exc z => rw [ef] at k2; exact k2
      | bad => rw [ef] at k2; exact k2.elim
      | ok d =>
        rw [ef, Out.bind_ok] at k2
        intro F3 H3 R3 S3 w hw
        match d, hw, k2 with
        | .bl true, .bl _, k2 =>
          refine ⟨true, rfl, ?_⟩
          rw [if_pos rfl]
          have k3 : Post C B F3 H3 μ σ ((oc ρ2).bind fun r => (get y r.2).bind fun y' => (get r.1 r.2).bind fun z => (f' y' z).bind fun d => .ok (d, r.2)) (fun d _ F' H' => ∀ v, Is C.g F' v d → Q v H') := by
            have k2 : Post C B F2 H2 μ σ ((oc ρ2).bind fun r => (get y r.2).bind fun y' => (get r.1 r.2).bind fun z => (f' y' z).bind fun d => .ok (d, r.2)) (fun d _ F' H' => ∀ v, Is C.g F' v d → Q v H') := k2
            match hh : ((oc ρ2).bind fun r => (get y r.2).bind fun y' => (get r.1 r.2).bind fun z => (f' y' z).bind fun d => .ok (d, r.2)), k2 with
            | .ok (dd, ρd), k2 => exact fun F' H' R' S' => k2 F' H' R' (S3.trans S')
            | .exc z, k2 => exact k2
            | .bad, k2 => exact k2
          refine sc B F3 H3 ρ2 σ _ R3 ((Post.bnd k3).imp fun z ρ4 F4 H4 R4 S4 k4 t ht => ?_)
          have hu4 : ArgR C.g F4 σ u y := (hu.mono S3.f).mono S4.f
          cases ey' : get y ρ4 with
          | exc z => exact absurd ey' (get_ne _ _ _)
          | bad => simp only [ey'] at k4; exact k4.elim
          | ok dy' =>
            simp only [ey', Out.bind_ok] at k4
            cases ez : get z ρ4 with
            | exc z => exact absurd ez (get_ne _ _ _)
            | bad => simp only [ez] at k4; exact k4.elim
            | ok dz =>
              simp only [ez, Out.bind_ok] at k4
              exact hs' B F4 H4 μ ρ4 σ u t dy' dz _ R4 (R4.arg hu4 ey') (R4.arg ht ez) k4
        | .bl false, .bl _, k2 =>
          refine ⟨false, rfl, ?_⟩
          rw [if_neg Bool.false_ne_true]
          have k2 : Post C B F2 H2 μ σ (.ok (.bl false, ρ2)) (fun d _ F' H' => ∀ v, Is C.g F' v d → Q v H') := k2
          exact k2 F3 H3 R3 S3 _ (.bl _)
        | .non, _, k2 => exact k2.elim
        | .int _, _, k2 => exact k2.elim
        | .str _, _, k2 => exact k2.elim
        | .tup _, _, k2 => exact k2.elim
        | .lst _, _, k2 => exact k2.elim
        | .scr _, _, k2 => exact k2.elim
        | .obj _ _ _, _, k2 => exact k2.elim
        | .dic _ _, _, k2 => exact k2.elim
        | .set _, _, k2 => exact k2.elim
theorem de_chain (ok : C.Ok) {op op' : CmpOp} {r r' : R2} {f f' : D → D → Out D} (ho : ∀ j, OpR (C.X j) (compareOp op) r) (hs : BinS C r f) (ho' : ∀ j, OpR (C.X j) (compareOp op') r') (hs' : BinS C r' f') {oa ob oc : Env → Out (Arg × Env)} (ha : DO C μ a oa) (hb : DO C μ b ob) (hc : DO C μ c oc)
    (hm : lastMarks [op, op'] [b, c] = false := by with_unfolding_all rfl) : DE C μ (.Compare a [op, op'] [b, c] pos) (M.chain f f' oa ob oc) := by
  obtain ⟨ta, pa, sa⟩ := ha
  obtain ⟨tb, pb, sb⟩ := hb
  obtain ⟨tc, pc, sc⟩ := hc
  exact ⟨_, fun j => pe_chain (ho j) (ho' j) (pa j) (pb j) (pc j) hm, chain_sem hs hs' sa sb sc⟩
theorem dt_chain (ok : C.Ok) {op op' : CmpOp} {r r' : R2} {f f' : D → D → Out D} (ho : ∀ j, OpR (C.X j) (compareOp op) r) (hs : BinS C r f) (ho' : ∀ j, OpR (C.X j) (compareOp op') r') (hs' : BinS C r' f') {oa ob oc : Env → Out (Arg × Env)} (ha : DO C μ a oa) (hb : DO C μ b ob) (hc : DO C μ c oc)
    (hm : lastMarks [op, op'] [b, c] = false := by with_unfolding_all rfl) : DT C μ (.Compare a [op, op'] [b, c] pos) (M.bool (M.chain f f' oa ob oc)) := by
  obtain ⟨ta, pa, sa⟩ := ha
  obtain ⟨tb, pb, sb⟩ := hb
  obtain ⟨tc, pc, sc⟩ := hc
  refine ⟨_, fun j => pt_chain (ho j) (ho' j) (pa j) (pb j) (pc j) hm, fun B F H ρ σ Q R h => chain_sem hs hs' sa sb sc B F H ρ σ _ R ((Post.bnd h).imp fun d ρ1 F1 H1 R1 S1 k v hv => ?_)⟩
  match d, hv, k with
  | .bl b, .bl _, k => exact ⟨b, rfl, k.now R1⟩
  | .non, _, k => exact k.elim
  | .int _, _, k => exact k.elim
  | .str _, _, k => exact k.elim
  | .tup _, _, k => exact k.elim
  | .lst _, _, k => exact k.elim
  | .scr _, _, k => exact k.elim
  | .obj _ _ _, _, k => exact k.elim
  | .dic _ _, _, k => exact k.elim
  | .set _, _, k => exact k.elim
end
end PyD

set_option Elab.async false
set_option linter.all false
set_option maxRecDepth 100000
/-! Dicts as data. -/
namespace PyD
open PySem L2 L2X PyProof.Rows
section
variable {g : G} {X : Cx} {pins : List (Addr × Obj)} {σ : L2.St} {F H : Hp} {s : Shared}
mutual
/-- data that is hashed, in the heap -/
theorem Is.kis (I : Inv X pins σ H s) (hK : X.K = g.K) (sub : Le F H) : ∀ {d : D} {v : V} {k : NestedKey} {u : Value}, Is g F v d → keyOf d = some k → RelV v u → NestedIs s.heap k u
  | .non, _, _, _, .non, e, r => by unfold keyOf at e; cases e; cases r; exact .none
  | .bl b, _, _, _, .bl _, e, r => by unfold keyOf at e; cases e; cases r; exact .bool rfl
  | .int i, _, _, _, .int _, e, r => by unfold keyOf at e; cases e; obtain ⟨t, rfl⟩ := r; exact .int i t
  | .str x, _, _, _, .str _, e, r => by unfold keyOf at e; cases e; obtain ⟨t, rfl⟩ := r; exact .text x t
  | .tup ds, _, _, _, .tup h t, e, r => by
    unfold keyOf at e
    cases ek : keysOf ds with
    | none => rw [ek] at e; cases e
    | some ks =>
      rw [ek] at e; cases e
      cases r
      obtain ⟨its, rv, ⟨o, ho, hc, n, hd⟩, _⟩ := I.tuple (by rw [hK]; exact sub.sqT h.sq)
      exact .tup ho hc hd (by simpa using IsAll.kis I hK sub t ek rv)
  | .lst _, _, _, _, _, e, _ => by unfold keyOf at e; cases e
  | .scr _, _, _, _, _, e, _ => by unfold keyOf at e; cases e
  | .obj _ _ _, _, _, _, _, e, _ => by unfold keyOf at e; cases e
  | .dic _ _, _, _, _, _, e, _ => by unfold keyOf at e; cases e
  | .set _, _, _, _, _, e, _ => by unfold keyOf at e; cases e
theorem IsAll.kis (I : Inv X pins σ H s) (hK : X.K = g.K) (sub : Le F H) : ∀ {ds : List D} {vs : List V} {ks : List NestedKey} {us : List Value}, IsAll g F vs ds → keysOf ds = some ks → Vals vs us → NestedAll s.heap ks us
  | [], _, _, _, .nil, e, r => by unfold keysOf at e; cases e; cases r; exact .nil
  | d :: ds, _, _, _, .cons h t, e, r => by
    unfold keysOf at e
    cases e1 : keyOf d with
    | none => rw [e1] at e; cases e
    | some k =>
      cases e2 : keysOf ds with
      | none => rw [e1, e2] at e; cases e
      | some ks =>
        rw [e1, e2] at e
        cases e
        cases r with
        | cons r1 r2 => exact .cons (Is.kis I hK sub h e1 r1) (IsAll.kis I hK sub t e2 r2)
end
end

/-! ### tables -/
def okKey (d : D) : Bool := match keyOf d with
  | some k => decide (k.depth ≤ 8)
  | none => false
theorem okKey_of {d : D} (h : okKey d = true) : ∃ k, keyOf d = some k ∧ k.depth ≤ 8 := by
  unfold okKey at h
  split at h
  · rename_i k e; exact ⟨k, e, of_decide_eq_true h⟩
  · cases h
def dget : List D → List D → D → Option D
  | k :: ks, v :: vs, x => if keyOf k = keyOf x then some v else dget ks vs x
  | _, _, _ => none
def dset : List D → List D → D → D → List D
  | k :: ks, v :: vs, x, y => (if keyOf k = keyOf x then y else v) :: dset ks vs x y
  | _, _, _, _ => []
def dputK (ks vs : List D) (x : D) : List D := if (dget ks vs x).isSome = true then ks else ks ++ [x]
def dputV (ks vs : List D) (x y : D) : List D := if (dget ks vs x).isSome = true then dset ks vs x y else vs ++ [y]
/-- the model's entries as data -/
inductive TabR (g : G) (F : Hp) : List KEnt → List D → List D → Prop
  | nil : TabR g F [] [] []
  | cons {x : KEnt} {k v : V} {d e : D} {xs : List KEnt} {ks vs : List D} : keyOf d = some x.1 → RelV k x.2.1 → Is g F k d → RelV v x.2.2 → Is g F v e → TabR g F xs ks vs → TabR g F (x :: xs) (d :: ks) (e :: vs)
def EntR (p : Int × V × V) (e : DictEntry) : Prop := e.hash = p.1 ∧ RelV p.2.1 e.key ∧ RelV p.2.2 e.val
section
variable {g : G} {F F' H : Hp}
theorem tab_of : ∀ {ents : List (Int × V × V)} {es : List DictEntry} {ks vs : List D} {nks : List NestedKey}, Paired EntR ents es → IsAll g F (ents.map (·.2.1)) ks → IsAll g F (ents.map (·.2.2)) vs → keysOf ks = some nks →
    ents.map (·.1) = nks.map (NestedKey.hash g.w) → ∃ xs : List KEnt, es = xs.map (entV g.w) ∧ xs.map (·.1) = nks ∧ TabR g F xs ks vs
  | [], _, _, _, nks, .nil, tk, tv, ek, eh => by
    cases tk; cases tv
    unfold keysOf at ek; cases ek
    exact ⟨[], rfl, rfl, .nil⟩
  | p :: ents, e :: es, _, _, nks, .cons r rs, tk, tv, ek, eh => by
    rw [List.map_cons] at tk tv eh
    cases tk with
    | @cons _ _ d ds ik tk =>
      cases tv with
      | cons iv tv =>
        unfold keysOf at ek
        cases e1 : keyOf d with
        | none => rw [e1] at ek; cases ek
        | some k =>
          cases e2 : keysOf ds with
          | none => rw [e1, e2] at ek; cases ek
          | some ns =>
            rw [e1, e2] at ek
            cases ek
            rw [List.map_cons] at eh
            injection eh with h1 h2
            obtain ⟨xs, x1, x2, x3⟩ := tab_of rs tk tv e2 h2
            refine ⟨(k, e.key, e.val) :: xs, ?_, by rw [List.map_cons, x2], .cons e1 r.2.1 ik r.2.2 iv x3⟩
            rw [List.map_cons, x1]
            congr 1
            unfold entV
            obtain ⟨a, b, c⟩ := e
            have := r.1
            simp only at this ⊢
            rw [this, h1]
theorem ents_of : ∀ {xs : List KEnt} {ks vs : List D}, TabR g F xs ks vs → ∃ ents : List (Int × V × V), Paired EntR ents (xs.map (entV g.w)) ∧ IsAll g F (ents.map (·.2.1)) ks ∧ IsAll g F (ents.map (·.2.2)) vs ∧ keysOf ks = some (xs.map (·.1)) ∧
    ents.map (·.1) = (xs.map (·.1)).map (NestedKey.hash g.w)
  | _, _, _, .nil => ⟨[], .nil, .nil, .nil, by unfold keysOf; rfl, rfl⟩
  | _, _, _, .cons (x := x) (k := k) (v := v) e1 r1 i1 r2 i2 t => by
    obtain ⟨ents, a, b, c, d, e⟩ := ents_of t
    refine ⟨(x.1.hash g.w, k, v) :: ents, .cons ⟨rfl, r1, r2⟩ a, .cons i1 b, .cons i2 c, ?_, ?_⟩
    · unfold keysOf; rw [e1, d]; rfl
    · rw [List.map_cons, e]; rfl
theorem TabR.mono (h : Le F F') : ∀ {xs : List KEnt} {ks vs : List D}, TabR g F xs ks vs → TabR g F' xs ks vs
  | _, _, _, .nil => .nil
  | _, _, _, .cons a b c d e t => .cons a b (c.mono h) d (e.mono h) (TabR.mono h t)
theorem TabR.length : ∀ {xs : List KEnt} {ks vs : List D}, TabR g F xs ks vs → xs.length = ks.length
  | _, _, _, .nil => rfl
  | _, _, _, .cons a b c d e t => by rw [List.length_cons, List.length_cons, t.length]
theorem TabR.at {d : D} {k : NestedKey} (hk : keyOf d = some k) : ∀ {xs : List KEnt} {ks vs : List D}, TabR g F xs ks vs →
    (∃ p v e, atV xs k = some p ∧ dget ks vs d = some e ∧ RelV v p.2 ∧ Is g F v e) ∨ (atV xs k = none ∧ dget ks vs d = none)
  | _, _, _, .nil => .inr ⟨rfl, rfl⟩
  | _, _, _, .cons (x := x) (v := v) (d := d') (e := e) e1 r1 i1 r2 i2 t => by
    rw [atV_cons]
    unfold dget
    rw [e1, hk]
    by_cases q : x.1 = k
    · rw [if_pos q, if_pos (by rw [q])]
      exact .inl ⟨_, v, e, rfl, rfl, r2, i2⟩
    · rw [if_neg q, if_neg (fun z => q (Option.some.inj z))]
      exact t.at hk
theorem TabR.put {d e : D} {k : NestedKey} {v : V} {u : Value} (hk : keyOf d = some k) (r : RelV v u) (i : Is g F v e) : ∀ {xs : List KEnt} {ks vs : List D}, TabR g F xs ks vs → TabR g F (xs.map (putV k u)) ks (dset ks vs d e)
  | _, _, _, .nil => by unfold dset; exact .nil
  | _, _, _, .cons (x := x) (v := v') (d := d') (e := e') e1 r1 i1 r2 i2 t => by
    unfold dset
    rw [List.map_cons, e1, hk]
    have ih := TabR.put hk r i t
    by_cases q : x.1 = k
    · rw [if_pos (by rw [q])]
      have : putV k u x = (x.1, x.2.1, u) := by unfold putV; rw [if_pos q]
      rw [this]
      exact .cons e1 r1 i1 r i ih
    · rw [if_neg (fun z => q (Option.some.inj z))]
      have : putV k u x = x := by unfold putV; rw [if_neg q]
      rw [this]
      exact .cons e1 r1 i1 r2 i2 ih
theorem TabR.app {d e : D} {k : NestedKey} {vk v : V} {uk u : Value} (hk : keyOf d = some k) (rk : RelV vk uk) (ik : Is g F vk d) (r : RelV v u) (i : Is g F v e) : ∀ {xs : List KEnt} {ks vs : List D}, TabR g F xs ks vs → TabR g F (xs ++ [(k, uk, u)]) (ks ++ [d]) (vs ++ [e])
  | _, _, _, .nil => .cons hk rk ik r i .nil
  | _, _, _, .cons a b c d e t => .cons a b c d e (TabR.app hk rk ik r i t)
theorem TabR.sto {d e : D} {k : NestedKey} {vk v : V} {uk u : Value} {xs : List KEnt} {ks vs : List D} (t : TabR g F xs ks vs) (hk : keyOf d = some k) (rk : RelV vk uk) (ik : Is g F vk d) (r : RelV v u) (i : Is g F v e) :
    TabR g F (stoV xs k uk u) (dputK ks vs d) (dputV ks vs d e) := by
  unfold dputK dputV
  rcases t.at hk with ⟨p, w, x, e1, e2, _, _⟩ | ⟨e1, e2⟩
  · rw [stoV_old e1, e2]
    exact t.put hk r i
  · rw [stoV_new e1, e2]
    exact t.app hk rk ik r i
theorem stoV_nodup {xs : List KEnt} {k : NestedKey} {u v : Value} (hn : (xs.map (·.1)).Nodup) : ((stoV xs k u v).map (·.1)).Nodup := by
  cases e : atV xs k with
  | some p => rw [stoV_old e, putV_keys]; exact hn
  | none =>
    rw [stoV_new e, List.map_append, List.nodup_append]
    refine ⟨hn, by simp, fun a ha b hb q => ?_⟩
    simp only [List.map_cons, List.map_nil, List.mem_singleton] at hb
    rw [hb] at q
    obtain ⟨x, hx, ex⟩ := List.mem_map.mp ha
    obtain ⟨j, hj⟩ := List.mem_iff_getElem?.mp hx
    have := atV_get hn (show xs[j]? = some (k, x.2) by rw [hj, ← q, ← ex])
    rw [e] at this; cases this
theorem stoV_mem {xs : List KEnt} {k : NestedKey} {u v : Value} {x : KEnt} (h : x ∈ stoV xs k u v) : x.1 = k ∨ ∃ y ∈ xs, y.1 = x.1 := by
  cases e : atV xs k with
  | some p =>
    rw [stoV_old e] at h
    obtain ⟨y, hy, q⟩ := List.mem_map.mp h
    refine .inr ⟨y, hy, ?_⟩
    rw [← q]; unfold putV; split <;> rfl
  | none =>
    rw [stoV_new e, List.mem_append] at h
    rcases h with h | h
    · exact .inr ⟨x, h, rfl⟩
    · rw [List.mem_singleton] at h; rw [h]; exact .inl rfl
theorem stoV_len (xs : List KEnt) (k : NestedKey) (u v : Value) : (stoV xs k u v).length ≤ xs.length + 1 := by
  unfold stoV; split
  · rw [List.length_map]; exact Nat.le_succ _
  · rw [List.length_append]; exact Nat.le_refl _
/-- the dict at a holds this data -/
def DicAt (g : G) (F H : Hp) (a : Addr) (ks vs : List D) : Prop := ∃ ents nks, H a = some (dicO a ents) ∧ IsAll g F (ents.map (·.2.1)) ks ∧ IsAll g F (ents.map (·.2.2)) vs ∧ DicK g.w ents ks nks
theorem RdR.dic {v : V} {ks vs : List D} (sub : Le F H) (h : RdR g F H v (.dic ks vs)) : ∃ a, v = .ref a ∧ DicAt g F H a ks vs := by
  rcases h with h | ⟨a, o, rfl, e, c⟩
  · cases h with
    | dic r t u k => exact ⟨_, rfl, _, _, sub _ _ r, t, u, k⟩
  · cases c with
    | dic t u k => exact ⟨a, rfl, _, _, e, t, u, k⟩
/-- .. in the model -/
theorem DicAt.tab {X : Cx} {pins : List (Addr × Obj)} {σ : L2.St} {s : Shared} {a : Addr} {ks vs : List D} (I : Inv X pins σ H s) (hK : X.K = g.K) (sub : Le F H) (h : DicAt g F H a ks vs) :
    ∃ xs : List KEnt, DictV g.w s.heap a xs ∧ (a == sysModules) = false ∧ xs.length ≤ sizeLine ∧ (xs.map (·.1)).Nodup ∧ (∀ x ∈ xs, KIs s.heap x.1 x.2.1) ∧ TabR g F xs ks vs ∧ (∀ x ∈ xs, x.1.depth ≤ 8) := by
  obtain ⟨ents, nks, e, tk, tv, h1, h2, h3, h4⟩ := h
  obtain ⟨⟨lo, hz, o, es, ep, ho, hx, hd, pr⟩, _⟩ := I.hok a _ e
  obtain ⟨xs, x1, x2, x3⟩ := tab_of pr tk tv h1 h4
  have hl : xs.length ≤ sizeLine := by
    have a1 := congrArg List.length x1
    have a2 := Paired.length pr
    rw [List.length_map] at a1
    omega
  have hdp : ∀ x ∈ xs, x.1.depth ≤ 8 := fun x hx => h2 _ (by rw [← x2]; exact List.mem_map.mpr ⟨x, hx, rfl⟩)
  refine ⟨xs, ⟨o, es, ep, ho, hx, hd, x1⟩, lo, hl, by rw [x2]; exact h3, ?_, x3, hdp⟩
  have : ∀ {xs : List KEnt} {ks vs : List D}, TabR g F xs ks vs → ∀ x ∈ xs, NestedIs s.heap x.1 x.2.1 := by
    intro xs ks vs t
    induction t with
    | nil => intro x hx; cases hx
    | cons a b c d e t ih =>
      intro x hx
      rcases List.mem_cons.mp hx with rfl | hx
      · exact Is.kis I hK sub c a b
      · exact ih x hx
  exact fun x hx => ⟨this x3 x hx, hdp x hx⟩
/-- what was made is tracked -/
theorem dicO_ok {P : Program} {w : World} {H' : Hp} {h' : Heap} {a : Addr} {xs : List KEnt} {ks vs : List D} (hw : w = g.w) (lo : (a == sysModules) = false) (hz : xs.length ≤ sizeLine) (hm : DictV w h' a xs) (t : TabR g F xs ks vs) (hn : (xs.map (·.1)).Nodup) (hdp : ∀ x ∈ xs, x.1.depth ≤ 8) :
    ∃ ents, ObjOk P w H' h' a (dicO a ents) ∧ ∀ F', Le F F' → CellR g F' a (dicO a ents) (.dic ks vs) := by
  subst hw
  obtain ⟨ents, p1, p2, p3, p4, p5⟩ := ents_of t
  obtain ⟨o, es, ep, ho, hx, hd, he⟩ := hm
  have hl : ents.length ≤ sizeLine := by
    have a2 := Paired.length p1
    rw [List.length_map] at a2
    omega
  refine ⟨ents, ⟨⟨lo, hl, o, es, ep, ho, hx, hd, by rw [he]; exact p1⟩, ⟨o, ho⟩, fun h1 h2 q k => ?_⟩, fun F' hF => .dic (p2.mono hF) (p3.mono hF) ⟨p4, fun k hk => ?_, hn, p5⟩⟩
  · obtain ⟨a1, a2, o, es, ep, ho, r⟩ := q
    exact ⟨a1, a2, o, es, ep, k _ ho, r⟩
  · obtain ⟨x, hx, rfl⟩ := List.mem_map.mp hk
    exact hdp x hx
end

/-! ### reading -/
section
variable {ι : Type} {C : Ctx ι} {μ : List Md} {e a b c : Expr} {es : List Expr} {pos p p2 p3 q : Pos} {x : Str} {g : G} {B : Base} {F H : Hp} {ρ : Env} {σ : L2.St}
theorem units9 {k : Nat} {A : Around} (r : Room k A) : A.units + 9 < cLine := by have := r.un; omega
def rDIn (g : G) : R2 := fun y x H Q => ∃ F a ks vs d, x = .ref a ∧ Le F H ∧ DicAt g F H a ks vs ∧ Is g F y d ∧ okKey d = true ∧ Q (.bl (dget ks vs d).isSome) H
def rDNotIn (g : G) : R2 := fun y x H Q => ∃ F a ks vs d, x = .ref a ∧ Le F H ∧ DicAt g F H a ks vs ∧ Is g F y d ∧ okKey d = true ∧ Q (.bl (!(dget ks vs d).isSome)) H
def rDIx (g : G) : R2 := fun x y H Q => ∃ F a ks vs d v, x = .ref a ∧ Le F H ∧ DicAt g F H a ks vs ∧ Is g F y d ∧ okKey d = true ∧ dget ks vs d = some v ∧ ∀ u, Is g F u v → Q u H
theorem o_dIn (ok : C.Ok) (j : ι) : OpR (C.X j) (compareOp .In) (rDIn C.g) := by
  intro pins s σ H y x u v Q I ry rx h
  obtain ⟨F, a, ks, vs, d, rfl, sub, hd, id, hk, q⟩ := h
  cases rx
  obtain ⟨k, k1, k2⟩ := okKey_of hk
  obtain ⟨xs, m1, m2, m3, m4, m5, m6, m7⟩ := hd.tab I (ok.hK j) sub
  have m1' : DictV (C.X j).w s.heap a xs := by rw [ok.hw j]; exact m1
  refine L2X.inV (units9 (ok.room j)) ⟨Is.kis I (ok.hK j) sub id k1 ry, k2⟩ m2 m1' m5 m4 fun t => ⟨.bl _, H, I.tok t, rfl, ?_⟩
  rcases m6.at k1 with ⟨p, w, z, e1, e2, _, _⟩ | ⟨e1, e2⟩
  · rw [e2] at q; rw [e1]; exact q
  · rw [e2] at q; rw [e1]; exact q
theorem o_dNotIn (ok : C.Ok) (j : ι) : OpR (C.X j) (compareOp .NotIn) (rDNotIn C.g) := by
  intro pins s σ H y x u v Q I ry rx h
  obtain ⟨F, a, ks, vs, d, rfl, sub, hd, id, hk, q⟩ := h
  cases rx
  obtain ⟨k, k1, k2⟩ := okKey_of hk
  obtain ⟨xs, m1, m2, m3, m4, m5, m6, m7⟩ := hd.tab I (ok.hK j) sub
  have m1' : DictV (C.X j).w s.heap a xs := by rw [ok.hw j]; exact m1
  refine notInV (units9 (ok.room j)) ⟨Is.kis I (ok.hK j) sub id k1 ry, k2⟩ m2 m1' m5 m4 fun t => ⟨.bl _, H, I.tok t, rfl, ?_⟩
  rcases m6.at k1 with ⟨p, w, z, e1, e2, _, _⟩ | ⟨e1, e2⟩
  · rw [e2] at q; rw [e1]; exact q
  · rw [e2] at q; rw [e1]; exact q
theorem i_dIx (ok : C.Ok) (j : ι) : IxR (C.X j) (rDIx C.g) := by
  intro value slice pins s σ H x y v u Q I rx ry h hs
  obtain ⟨F, a, ks, vs, d, w, rfl, sub, hd, id, hk, hg, q⟩ := h
  cases rx
  obtain ⟨k, k1, k2⟩ := okKey_of hk
  obtain ⟨xs, m1, m2, m3, m4, m5, m6, m7⟩ := hd.tab I (ok.hK j) sub
  have m1' : DictV (C.X j).w s.heap a xs := by rw [ok.hw j]; exact m1
  rcases m6.at k1 with ⟨p, w', z, e1, e2, r1, i1⟩ | ⟨e1, e2⟩
  · rw [hg] at e2; cases e2
    exact tail_any m1'.typeIs slot_dict_getitem.lookup (getItemV (units9 (ok.room j)) ⟨Is.kis I (ok.hK j) sub id k1 ry, k2⟩ m1' m5 m4 e1 fun t => ⟨w', H, I.tok t, r1, q _ i1⟩) hs
  · rw [hg] at e2; cases e2
end
end PyD

set_option Elab.async false
set_option linter.all false
set_option maxRecDepth 100000
namespace L2X
open PySem PySem.Spec PyProof.Rows L2
section
variable {prog : Program} {w : World} {A : Around} {E : Value → Shared → Prop} {s : Shared}
/-- the pairs of a display are put in -/
theorem storeAllV {d : Addr} (hu : A.units + 8 < cLine) : ∀ (ps acc : List KEnt) (s : Shared) (Q : PUnit → Shared → Prop), (∀ x ∈ ps, KIs s.heap x.1 x.2.1) → DictV w s.heap d acc → (∀ x ∈ acc, KIs s.heap x.1 x.2.1) → (acc.map (·.1)).Nodup → acc.length + ps.length ≤ sizeLine →
    (∀ h' tk, DictV w h' d (ps.foldl (fun a x => stoV a x.1 x.2.1 x.2.2) acc) → Heap.SameBut d s.heap h' → Q PUnit.unit { s with heap := h', toks := tk }) →
    wpAny (model prog w) A (forIn (ps.map fun x => (x.2.1, x.2.2)) PUnit.unit fun (x : Value × Value) (_ : PUnit) => (do dictSet d x.1 x.2; pure (ForInStep.yield PUnit.unit) : Sem (ForInStep PUnit))) Q E s
  | [], acc, s, Q, _, hm, _, _, _, hQ => by
    rw [List.map_nil, List.forIn_nil]
    exact wpAny_pure (hQ s.heap s.toks hm (Heap.SameBut.refl _ _))
  | x :: ps, acc, s, Q, hk, hm, ha, hn, hsz, hQ => by
    rw [List.length_cons] at hsz
    rw [List.map_cons, List.forIn_cons]
    obtain ⟨o, es, ep, ho, hx, hd, he⟩ := id hm
    have hx0 := hk x List.mem_cons_self
    refine wpAny_bind (wpAny_bind (setHV hu hx0 hm ha hn (by omega) fun h₁ t hm₁ hs₁ => wpAny_pure ?_))
    refine storeAllV hu ps _ { s with heap := h₁, toks := t } Q (fun y hy => (hk y (List.mem_cons_of_mem _ hy)).keeps ho hd hs₁) hm₁ (fun y hy => ?_) (PyD.stoV_nodup hn) (Nat.le_trans (Nat.add_le_add_right (PyD.stoV_len acc x.1 x.2.1 x.2.2) _) (by omega))
      fun h' tk hm' hs' => hQ h' tk hm' (hs₁.trans hs')
    cases e : atV acc x.1 with
    | some p =>
      rw [stoV_old e] at hy
      obtain ⟨z, hz, rfl⟩ := List.mem_map.mp hy
      have q : (putV x.1 x.2.2 z).1 = z.1 ∧ (putV x.1 x.2.2 z).2.1 = z.2.1 := by unfold putV; split <;> exact ⟨rfl, rfl⟩
      rw [q.1, q.2]
      exact (ha z hz).keeps ho hd hs₁
    | none =>
      rw [stoV_new e, List.mem_append] at hy
      rcases hy with hy | hy
      · exact (ha y hy).keeps ho hd hs₁
      · rw [List.mem_singleton] at hy; subst hy
        exact hx0.keeps ho hd hs₁
theorem dispV {env : Env} {keys : List (Option Expr)} {values : List Expr} {pos : Pos} {Q : Value → Shared → Prop} (hu : A.units + 8 < cLine)
    (hall : keys.all (·.isSome) = true) (hl : keys.length = values.length) (h0 : keys ≠ []) (hlen : keys.length ≤ 15)
    (h : wpAny (model prog w) A (evalPairs (pairTrees keys values env pos)) (fun vs s₁ => ∃ ps : List KEnt, vs = ps.map (fun x => (x.2.1, x.2.2)) ∧ (∀ x ∈ ps, KIs s₁.heap x.1 x.2.1) ∧ DictV w s₁.heap s.heap.objs.size [] ∧
      ∀ h' tk, DictV w h' s.heap.objs.size (ps.foldl (fun a x => stoV a x.1 x.2.1 x.2.2) []) → Heap.SameBut s.heap.objs.size s₁.heap h' → Q (.ref s.heap.objs.size) { s₁ with heap := h', toks := tk }) E
      { s with heap := s.heap.push { cls := .type "dict", data := .dict #[] } }) :
    wpAny (model prog w) A (eval (.Dict keys values pos) env) Q E s := by
  have hn := pairTrees_length keys values env pos hall hl
  rw [arm_eval_Dict, zip_pairTrees keys values env pos hall hl, dictDisplay_pairs (pairTrees keys values env pos) (fun e => h0 (List.length_eq_zero_iff.mp (by rw [← hn, e]; rfl))) (by omega)]
  refine wpAny_bind (wpAny_standAt (wpAny_bind ?_))
  unfold subDict
  refine wpAny_bind (wpAny_alloc ?_)
  refine wpAny_bind (wpAny_holding ?_)
  rw [if_pos (by rw [hn]; exact hlen)]
  refine wpAny_bind (wpAny_mono (wpAny_evalPairs_len h) (fun vs s₁ h₁ => ?_) fun _ _ e => e)
  obtain ⟨hvl, ps, rfl, hk, hm, hQ⟩ := h₁
  refine wpAny_holding ?_
  rw [List.length_map, hn] at hvl
  refine wpAny_bind (storeAllV hu ps [] s₁ _ hk hm (fun _ hx => nomatch hx) List.nodup_nil (by rw [sizeLine_eq, List.length_nil]; omega) fun h' tk hm' hs' => ?_)
  exact wpAny_pure (wpAny_pure (wpAny_pure (hQ h' tk hm' hs')))
theorem lenBodyV {d : Addr} {xs : List KEnt} {Q : Value → Shared → Prop} (hd : (d == sysModules) = false) (hm : DictV w s.heap d xs) (hfit : (xs.length : Int) < 2 ^ 63)
    (h : ∀ t t', Q (.int xs.length t) { s with toks := t' }) : wpAny (model prog w) A (Builtin.«len» ⟨[.ref d], []⟩) (fun fin s' => ∃ r, fin = .done (.ret r) ∧ Q r s') E s := by
  obtain ⟨o, es, ep, ho, hx, hdt, he⟩ := id hm
  have hz : es.size = xs.length := by rw [← Array.length_toList, he, List.length_map]
  unfold Builtin.«len»
  refine wpAny_bind (m := oneArg "len" _) (wpAny_pure ?_)
  refine wpAny_bind (m := callSpecial? (.ref d) (Str.ofString "__len__")) (wpAny_callSpecial?_slot (name := Str.ofString "__len__") hm.typeIs F.slot_dict_len
    (call_meetsIn F.slot_dict_len hm.typeIs F.entry_dict_len (F.args_dict_len_1 _) (meets_dict_len_raw d hd) ⟨es, ep, ⟨o, ho, hx, hdt⟩, ?_⟩))
  show wpAny _ _ _ _ _ { s with toks := s.toks + 1 }
  refine wpAny_bind (wpAny_holding (wpAny_pure ?_))
  refine wpAny_bind (wpAny_letGo ?_)
  show wpAny _ _ (if ((es.size : Nat) : Int) < 0 then _ else _) _ _ _
  rw [if_neg (by omega)]
  show wpAny _ _ (if ((es.size : Nat) : Int) ≥ 2 ^ 63 then _ else _) _ _ _
  rw [if_neg (by omega), hz]
  exact wpAny_bind (wpAny_mkInt (wpAny_pure ⟨_, rfl, h _ _⟩))
theorem lenV {d : Addr} {xs : List KEnt} {Q : Value → Shared → Prop} (hd : (d == sysModules) = false) (hm : DictV w s.heap d xs) (hfit : (xs.length : Int) < 2 ^ 63)
    (h : ∀ t t', Q (.int xs.length t) { s with toks := t' }) : wpAny (model prog w) A (call (.builtin "len") [.ref d]) Q E s :=
  Calls.call_function_entry kind_len plain_len entry_len (args_len1 _) (lenBodyV hd hm hfit h)
end
end L2X
namespace PyD
open PySem L2 L2X PyProof.Rows
section
variable {ι : Type} {C : Ctx ι} {μ : List Md} {e a b c : Expr} {es : List Expr} {pos p p2 p3 q : Pos} {x : Str} {g : G} {B : Base} {F H : Hp} {ρ : Env} {σ : L2.St}
theorem RdR.key {v : V} {d : D} (h : RdR g F H v d) (k : okKey d = true) : Is g F v d := by
  rcases h with h | ⟨a, o, rfl, e, c⟩
  · exact h
  · obtain ⟨k', e', _⟩ := okKey_of k
    cases c with
    | lst _ => unfold keyOf at e'; cases e'
    | dic _ _ _ => unfold keyOf at e'; cases e'
def inO2 (a b : D) : Out D := match b with
  | .dic ks vs => if okKey a = true then .ok (.bl (dget ks vs a).isSome) else .bad
  | b => inO a b
def notInO2 (a b : D) : Out D := match b with
  | .dic ks vs => if okKey a = true then .ok (.bl (!(dget ks vs a).isSome)) else .bad
  | b => notInO a b
theorem o_in2 (ok : C.Ok) (j : ι) : OpR (C.X j) (compareOp .In) (fun x y H Q => rInA C.g.K x y H Q ∨ rDIn C.g x y H Q) := OpR.or (o_in ok j) (o_dIn ok j)
theorem o_notIn2 (ok : C.Ok) (j : ι) : OpR (C.X j) (compareOp .NotIn) (fun x y H Q => rNotInA C.g.K x y H Q ∨ rDNotIn C.g x y H Q) := OpR.or (o_notIn ok j) (o_dNotIn ok j)
theorem s_in2 : BinS C (fun x y H Q => rInA C.g.K x y H Q ∨ rDIn C.g x y H Q) inO2 := by
  intro B F H μ ρ σ x y dx dy Q R rx ry h
  cases dy with
  | dic ks vs =>
    obtain ⟨a, rfl, hd⟩ := ry.dic R.sub
    unfold inO2 at h
    by_cases k : okKey dx = true
    · simp only [if_pos k] at h
      exact .inr ⟨F, a, ks, vs, dx, rfl, R.sub, hd, rx.key k, k, h.sc R (.bl _)⟩
    · simp only [if_neg k] at h; exact h.elim
  | _ => exact .inl (s_in B F H μ ρ σ x y dx _ Q R rx ry h)
theorem s_notIn2 : BinS C (fun x y H Q => rNotInA C.g.K x y H Q ∨ rDNotIn C.g x y H Q) notInO2 := by
  intro B F H μ ρ σ x y dx dy Q R rx ry h
  cases dy with
  | dic ks vs =>
    obtain ⟨a, rfl, hd⟩ := ry.dic R.sub
    unfold notInO2 at h
    by_cases k : okKey dx = true
    · simp only [if_pos k] at h
      exact .inr ⟨F, a, ks, vs, dx, rfl, R.sub, hd, rx.key k, k, h.sc R (.bl _)⟩
    · simp only [if_neg k] at h; exact h.elim
  | _ => exact .inl (s_notIn B F H μ ρ σ x y dx _ Q R rx ry h)
def ixO2 (a b : D) : Out D := match a with
  | .dic ks vs => if okKey b = true then (match dget ks vs b with
    | some v => .ok v
    | none => .bad) else .bad
  | a => ixO a b
theorem s_ix2 : BinS C (fun x y H Q => rIx2 C.g.K x y H Q ∨ rDIx C.g x y H Q) ixO2 := by
  intro B F H μ ρ σ x y dx dy Q R rx ry h
  cases dx with
  | dic ks vs =>
    obtain ⟨a, rfl, hd⟩ := rx.dic R.sub
    unfold ixO2 at h
    by_cases k : okKey dy = true
    · simp only [if_pos k] at h
      cases e : dget ks vs dy with
      | none => simp only [e] at h; exact h.elim
      | some v =>
        simp only [e] at h
        exact .inr ⟨F, a, ks, vs, dy, v, rfl, R.sub, hd, ry.key k, k, e, fun u hu => h.sc R hu⟩
    · simp only [if_neg k] at h; exact h.elim
  | _ => exact .inl (s_ix B F H μ ρ σ x y _ dy Q R rx ry h)
theorem de_ix2 (ok : C.Ok) {oa ob : Env → Out (Arg × Env)} (ha : DO C μ a oa) (hb : DO C μ b ob) (hs : PlainIx b := by exact fun _ _ => rfl) : DE C μ (.Subscript a b pos) (M.op2 ixO2 oa ob) := by
  obtain ⟨ta, pa, sa⟩ := ha
  obtain ⟨tb, pb, sb⟩ := hb
  exact ⟨_, fun j => pe_ix (IxR.or (i_ix ok j) (i_dIx ok j)) (pa j) (pb j) hs, fun B F H ρ σ Q R h => binS_core s_ix2 sa sb R h⟩
def lenO2 : List D → Out D
  | [.dic ks _] => .ok (.int ks.length)
  | ds => lenO ds
def rLen2 (g : G) : List V → Hp → VK → Prop := fun xs H Q => rLen g.K xs H Q ∨ ∃ F a ks vs, xs = [.ref a] ∧ Le F H ∧ DicAt g F H a ks vs ∧ Q (.int ks.length) H
theorem c_len2 (ok : C.Ok) (j : ι) : CallR (C.X j) (.builtin "len") (rLen2 C.g) := by
  intro pins s σ H xs us Q I r h
  rcases h with h | ⟨F, a, ks, vs, rfl, sub, hd, q⟩
  · exact c_len ok j pins s σ H xs us Q I r h
  · obtain ⟨u, rfl, rx⟩ := vals1 r
    cases rx
    obtain ⟨xs, m1, m2, m3, m4, m5, m6, m7⟩ := hd.tab I (ok.hK j) sub
    refine lenV m2 (by rw [ok.hw j] at *; exact m1) (by rw [sizeLine_eq] at m3; omega) fun t t' => ⟨.int _, H, I.tok _, ⟨_, rfl⟩, ?_⟩
    rw [m6.length]; exact q
theorem s_len2 : CallS C (rLen2 C.g) lenO2 := by
  intro B F H μ ρ σ vs ds Q R hv h
  match ds, hv, h with
  | [.dic ks ws], hv, h =>
    obtain ⟨u, rfl, hu⟩ := hv.one
    obtain ⟨a, rfl, hd⟩ := hu.dic R.sub
    exact .inr ⟨F, a, ks, ws, rfl, R.sub, hd, h.sc R (.int _)⟩
  | [.lst xs], hv, h => exact .inl (s_len B F H μ ρ σ vs _ Q R hv h)
  | [.tup xs], hv, h => exact .inl (s_len B F H μ ρ σ vs _ Q R hv h)

/-! ### x[i] = e of an owned list or dict -/
def stoO (c i v : D) : Out D := match c, i with
  | .lst ds, .int k => (match ixN ds.length k with
    | some j => .ok (.lst (ds.set j v))
    | none => .bad)
  | .dic ks vs, k => if okKey k = true ∧ ks.length < 100000 then .ok (.dic (dputK ks vs k) (dputV ks vs k v)) else .bad
  | _, _ => .bad
def rSetD (g : G) : V → V → V → Hp → (Hp → Prop) → Prop := fun o i v H Q => ∃ F a ks vs d e, o = .ref a ∧ Le F H ∧ DicAt g F H a ks vs ∧ Is g F i d ∧ okKey d = true ∧ ks.length < 100000 ∧ Is g F v e ∧
  ∀ ob, CellR g F a ob (.dic (dputK ks vs d) (dputV ks vs d e)) → Q (upd H a ob)
theorem set_dic (ok : C.Ok) (j : ι) : PSet (C.X j) (rSetD C.g) := by
  intro pins s σ H o i v ov iv u Q I ro ri rv h
  obtain ⟨F, a, ks, vs, d, e, rfl, sub, hd, id, hk, hz, ie, q⟩ := h
  cases ro
  obtain ⟨k, k1, k2⟩ := okKey_of hk
  have hd' := hd
  obtain ⟨ents, nks, hH, _⟩ := hd'
  obtain ⟨xs, m1, m2, m3, m4, m5, m6, m7⟩ := hd.tab I (ok.hK j) sub
  have hl := m6.length
  refine setItemV (units9 (ok.room j)) ⟨Is.kis I (ok.hK j) sub id k1 ri, k2⟩ (by rw [ok.hw j]; exact m1) m5 m4 m3 fun h' t hm hs => ?_
  have hx : ∃ q, h'.get? a = some q := let ⟨o, _, _, ho, _⟩ := hm; ⟨o, ho⟩
  have hz2 : (stoV xs k iv u).length ≤ sizeLine := Nat.le_trans (stoV_len xs k iv u) (by rw [sizeLine_eq]; omega)
  obtain ⟨ents', h1, h2⟩ := dicO_ok (P := (C.X j).prog) (w := (C.X j).w) (H' := upd H a (dicO a ents)) (ok.hw j) m2 hz2 hm (m6.sto k1 ri id rv ie) (stoV_nodup m4) (fun x hx => by
    rcases stoV_mem hx with e | ⟨y, hy, e⟩
    · rw [e]; exact k2
    · rw [← e]; exact m7 y hy)
  refine ⟨upd H a (dicO a ents'), d_write I (by rw [hH]; exact True.intro) hs hx ?_, q _ (h2 F (Le.refl F))⟩
  exact h1
end
end PyD

set_option Elab.async false
set_option linter.all false
set_option maxRecDepth 100000
namespace PyD
open PySem L2 L2X PyProof.Rows
/-! ### sorted tuples of ints -/
def tups? : List D → Option (List (List Int))
  | [] => some []
  | .tup xs :: ds => (ints? xs).bind fun ns => (tups? ds).map (ns :: ·)
  | _ => none
def tupI (ns : List Int) : D := .tup (ns.map D.int)
theorem tups?_eq : ∀ {ds : List D} {nss : List (List Int)}, tups? ds = some nss → ds = nss.map tupI
  | [], ns, h => by cases h; rfl
  | .tup xs :: ds, nss, h => by
    unfold tups? at h
    cases e : ints? xs with
    | none => rw [e] at h; cases h
    | some ns =>
      cases e2 : tups? ds with
      | none => rw [e, e2] at h; cases h
      | some ms =>
        rw [e, e2] at h; cases h
        rw [List.map_cons, ← tups?_eq e2, ints?_eq e]; rfl
  | .non :: _, _, h => by cases h
  | .bl _ :: _, _, h => by cases h
  | .str _ :: _, _, h => by cases h
  | .int _ :: _, _, h => by cases h
  | .lst _ :: _, _, h => by cases h
  | .scr _ :: _, _, h => by cases h
  | .obj _ _ _ :: _, _, h => by cases h
  | .dic _ _ :: _, _, h => by cases h
  | .set _ :: _, _, h => by cases h
theorem tups?_map : ∀ nss : List (List Int), tups? (nss.map tupI) = some nss
  | [] => rfl
  | ns :: nss => by
    have hi : ∀ ns : List Int, ints? (ns.map D.int) = some ns := fun ns => by
      induction ns with
      | nil => rfl
      | cons n ns ih => unfold ints?; rw [List.map_cons]; simp only [ih]; rfl
    rw [List.map_cons]
    unfold tups? tupI
    simp only [hi]
    have := tups?_map nss
    unfold tupI at this
    rw [this]; rfl
abbrev cBd : Int := 1000000
def cd (ns : List Int) : Int := TS.code cBd ns
def insT (n : List Int) : List (List Int) → List (List Int)
  | [] => [n]
  | m :: ms => if cd n ≤ cd m then n :: m :: ms else m :: insT n ms
def isortT : List (List Int) → List (List Int)
  | [] => []
  | n :: ns => insT n (isortT ns)
theorem insT_perm (i : List Int) : ∀ js : List (List Int), (insT i js).Perm (i :: js)
  | [] => List.Perm.refl _
  | j :: js => by
    unfold insT
    split
    · exact List.Perm.refl _
    · exact ((insT_perm i js).cons j).trans (List.Perm.swap i j js)
theorem isortT_perm : ∀ is : List (List Int), (isortT is).Perm is
  | [] => List.Perm.refl _
  | i :: is => by unfold isortT; exact (insT_perm i _).trans ((isortT_perm is).cons i)
theorem insT_sorted {i : List Int} : ∀ {js : List (List Int)}, js.Pairwise (fun a b => cd a ≤ cd b) → (insT i js).Pairwise (fun a b => cd a ≤ cd b)
  | [], _ => by unfold insT; exact List.pairwise_singleton _ _
  | j :: js, h => by
    unfold insT
    have h' := List.pairwise_cons.mp h
    split
    · rename_i hij
      exact List.pairwise_cons.mpr ⟨fun k hk => by
        rcases List.mem_cons.mp hk with rfl | hk
        · exact hij
        · exact Int.le_trans hij (h'.1 k hk), h⟩
    · rename_i hij
      refine List.pairwise_cons.mpr ⟨fun k hk => ?_, insT_sorted h'.2⟩
      rcases List.mem_cons.mp ((insT_perm i js).mem_iff.mp hk) with rfl | hk
      · exact Int.le_of_lt (Int.not_le.mp hij)
      · exact h'.1 k hk
theorem isortT_sorted : ∀ is : List (List Int), (isortT is).Pairwise (fun a b => cd a ≤ cd b)
  | [] => List.Pairwise.nil
  | i :: is => by unfold isortT; exact insT_sorted (isortT_sorted is)
theorem sorted_uniqT : ∀ {l m : List (List Int)}, l.Perm m → l.Pairwise (fun a b => cd a ≤ cd b) → m.Pairwise (fun a b => cd a ≤ cd b) → (∀ a ∈ l, ∀ b ∈ l, cd a = cd b → a = b) → l = m
  | [], m, h, _, _, _ => (List.Perm.eq_nil h.symm).symm
  | x :: l, [], h, _, _, _ => absurd h.length_eq (by simp)
  | x :: l, y :: m, h, hl, hm, inj => by
    have h1 := List.pairwise_cons.mp hl
    have h2 := List.pairwise_cons.mp hm
    have hy : y ∈ x :: l := h.mem_iff.mpr List.mem_cons_self
    have e : x = y := by
      refine inj x List.mem_cons_self y hy (Int.le_antisymm ?_ ?_)
      · rcases List.mem_cons.mp hy with q | q
        · rw [q]; exact Int.le_refl _
        · exact h1.1 y q
      · rcases List.mem_cons.mp (h.mem_iff.mp (List.mem_cons_self (a := x))) with q | q
        · rw [q]; exact Int.le_refl _
        · exact h2.1 x q
    subst e
    rw [sorted_uniqT ((List.perm_cons x).mp h) h1.2 h2.2 fun a ha b hb => inj a (List.mem_cons_of_mem _ ha) b (List.mem_cons_of_mem _ hb)]
theorem code_inj {B : Int} : ∀ {a b : List Int}, a.length = b.length → TS.Bd B a → TS.Bd B b → TS.code B a = TS.code B b → a = b
  | [], [], _, _, _, _ => rfl
  | [], _ :: _, h, _, _, _ => by simp at h
  | _ :: _, [], h, _, _, _ => by simp at h
  | x :: a, y :: b, h, ha, hb, e => by
    have hl : a.length = b.length := by simpa using h
    rcases Int.lt_trichotomy x y with q | q | q
    · have := TS.code_lt hl ha.tail hb.tail q
      omega
    · subst q
      have e' : x * B ^ a.length + TS.code B a = x * B ^ b.length + TS.code B b := e
      rw [hl] at e'
      rw [code_inj hl ha.tail hb.tail (by omega)]
    · have := TS.code_lt hl.symm hb.tail ha.tail q
      omega
/-- fewer than 64 tuples, all as long, of small numbers -/
def okT (nss : List (List Int)) : Bool := decide (nss.length < 64) && (nss.all fun ns => decide (ns.length = (nss.headD [0]).length) && decide (1 ≤ ns.length) && ns.all fun n => decide (0 ≤ n) && decide (n < cBd))
theorem okT_of {nss : List (List Int)} (h : okT nss = true) : nss.length < 64 ∧ 1 ≤ (nss.headD [0]).length ∧ ∀ ns ∈ nss, ns.length = (nss.headD [0]).length ∧ TS.Bd cBd ns := by
  unfold okT at h
  rw [Bool.and_eq_true, decide_eq_true_eq, List.all_eq_true] at h
  have h2 : ∀ ns ∈ nss, ns.length = (nss.headD [0]).length ∧ 1 ≤ ns.length ∧ TS.Bd cBd ns := fun ns hn => by
    have := h.2 ns hn
    rw [Bool.and_eq_true, Bool.and_eq_true, decide_eq_true_eq, decide_eq_true_eq, List.all_eq_true] at this
    refine ⟨this.1.1, this.1.2, fun m hm => ?_⟩
    have := this.2 m hm
    rw [Bool.and_eq_true, decide_eq_true_eq, decide_eq_true_eq] at this
    exact this
  refine ⟨h.1, ?_, fun ns hn => ⟨(h2 ns hn).1, (h2 ns hn).2.2⟩⟩
  cases nss with
  | nil => decide
  | cons n nss => exact (h2 n List.mem_cons_self).2.1
theorem okT_inj {nss : List (List Int)} (h : okT nss = true) : ∀ a ∈ nss, ∀ b ∈ nss, cd a = cd b → a = b := fun a ha b hb e =>
  code_inj ((okT_of h).2.2 a ha |>.1.trans ((okT_of h).2.2 b hb).1.symm) ((okT_of h).2.2 a ha).2 ((okT_of h).2.2 b hb).2 e

section
variable {ι : Type} {C : Ctx ι} {μ : List Md} {e a b c : Expr} {es : List Expr} {pos p p2 p3 q : Pos} {x : Str} {g : G} {B : Base} {F H : Hp} {ρ : Env} {σ : L2.St}
theorem IsAll.mapF {α : Type} {f : α → V} {h : α → D} : ∀ {l : List α}, (∀ v ∈ l, Is g F (f v) (h v)) → IsAll g F (l.map f) (l.map h)
  | [], _ => .nil
  | v :: l, k => .cons (k v List.mem_cons_self) (IsAll.mapF fun u hu => k u (List.mem_cons_of_mem _ hu))
theorem Is.toI {a : Addr} {ns : List Int} (h : Is g F (.ref a) (tupI ns)) (sub : Le F H) : SqT g.K H a (ns.map V.int) := by
  unfold tupI at h
  cases h with
  | tup r t => rw [← t.toInts]; exact sub.sqT r.sq
/-- sorted(..): of a list of tuples, of a dict whose keys are tuples -/
def rSortTD (g : G) : List V → Hp → VK → Prop := fun xs H Q => ∃ F a nss, xs = [.ref a] ∧ Le F H ∧ okT nss = true ∧ ((∃ vs, H a = some (.lst vs) ∧ IsAll g F vs (nss.map tupI)) ∨ ∃ ws, DicAt g F H a (nss.map tupI) ws) ∧
  ∀ p ys, H p = none → IsAll g F ys ((isortT nss).map tupI) → Q (.ref p) (upd H p (.lst ys))
theorem out_tups {X : Cx} {pins : List (Addr × Obj)} {s : Shared} (I : Inv X pins σ H s) (hK : X.K = g.K) (sub : Le F H) {us : List Value} {nss : List (List Int)} {vs : List V} (hn : IsAll g F vs (nss.map tupI)) (hv : Vals vs us) :
    (∀ u ∈ us, ∃ a ns, u = Value.ref a ∧ ns ∈ nss ∧ Is g F (.ref a) (tupI ns) ∧ TS.TupInts s.heap u ns) ∧ us.map (TS.intsOf s.heap) = nss := by
  induction nss generalizing vs us with
  | nil => cases hn; cases hv; exact ⟨(fun u hu => nomatch hu), rfl⟩
  | cons n nss ih =>
    cases hn with
    | @cons v0 _ _ _ h t =>
      cases hv with
      | cons r rs =>
        obtain ⟨ih1, ih2⟩ := ih t rs
        have : ∃ a, v0 = V.ref a := by
          unfold tupI at h
          cases h with
          | tup _ _ => exact ⟨_, rfl⟩
        obtain ⟨a, rfl⟩ := this
        cases r
        have ti := tupI_raw I (by rw [hK]; exact h.toI sub)
        refine ⟨fun u hu => ?_, by rw [List.map_cons, ih2, ti.ints]⟩
        rcases List.mem_cons.mp hu with rfl | hu
        · exact ⟨a, n, rfl, List.mem_cons_self, h, ti⟩
        · obtain ⟨a', ns, e1, e2, e3, e4⟩ := ih1 u hu
          exact ⟨a', ns, e1, List.mem_cons_of_mem _ e2, e3, e4⟩
theorem out_back {s : Shared} {us out : List Value} {nss : List (List Int)} (hk : okT nss = true) (h1 : ∀ u ∈ us, ∃ a ns, u = Value.ref a ∧ ns ∈ nss ∧ Is g F (.ref a) (tupI ns) ∧ TS.TupInts s.heap u ns) (h2 : us.map (TS.intsOf s.heap) = nss) (hp : out.Perm us)
    (hs : out.Pairwise fun u v => TS.code cBd (TS.intsOf s.heap u) ≤ TS.code cBd (TS.intsOf s.heap v)) : IsAll g F (out.map bkV) ((isortT nss).map tupI) ∧ Vals (out.map bkV) out := by
  have e : out.map (TS.intsOf s.heap) = isortT nss := by
    have hp' : (out.map (TS.intsOf s.heap)).Perm nss := h2 ▸ hp.map _
    refine sorted_uniqT (hp'.trans (isortT_perm nss).symm) (by rw [List.pairwise_map]; exact hs) (isortT_sorted nss) fun a ha b hb => okT_inj hk a (hp'.mem_iff.mp ha) b (hp'.mem_iff.mp hb)
  refine ⟨?_, bkV_vals fun u hu => ?_⟩
  · rw [← e, List.map_map]
    refine IsAll.mapF fun u hu => ?_
    obtain ⟨a, ns, rfl, _, i, t⟩ := h1 u (hp.mem_iff.mp hu)
    show Is g F (.ref a) (tupI (TS.intsOf s.heap (.ref a)))
    rw [t.ints]; exact i
  · obtain ⟨a, ns, e, _⟩ := h1 u (hp.mem_iff.mp hu)
    exact ⟨a, e⟩
theorem tabKeys {xs : List KEnt} {ks vs : List D} (t : TabR g F xs ks vs) : ∃ kv : List V, IsAll g F kv ks ∧ Vals kv (xs.map (·.2.1)) := by
  induction t with
  | nil => exact ⟨[], .nil, .nil⟩
  | cons a b c d e t ih =>
    obtain ⟨kv, h1, h2⟩ := ih
    exact ⟨_ :: kv, .cons c h1, .cons b h2⟩
theorem c_sortTD (ok : C.Ok) (j : ι) : CallR (C.X j) (.builtin "sorted") (rSortTD C.g) := by
  intro pins s σ H xs us Q I r h
  obtain ⟨F, a, nss, rfl, sub, hk, hl, q⟩ := h
  obtain ⟨k64, k1, kd⟩ := okT_of hk
  rw [Vals.ref1 r]
  rcases hl with ⟨vs, ha, t⟩ | ⟨ws, hd⟩
  · obtain ⟨its, rv, hl, hz⟩ := I.list (SqL.of ha)
    obtain ⟨o1, o2⟩ := out_tups I (ok.hK j) sub t rv
    have hlen : its.length = nss.length := by have := t.length; rw [List.length_map] at this; rw [← rv.length]; exact this
    refine TS.sorted_tups (d := (nss.headD [0]).length) (B := cBd) hl.isList (by omega) k1 (fun v hv => ?_) fun out h1 h2 => ?_
    · obtain ⟨a', ns, _, hn, _, ti⟩ := o1 v hv
      exact ⟨ns, ti, (kd ns hn).1, (kd ns hn).2⟩
    · obtain ⟨i1, i2⟩ := out_back hk o1 o2 h1 h2
      obtain ⟨ep, he'⟩ := PyProof.Rows.sortedAll_at s.heap its out
      have hln : (out.toList.map bkV).length ≤ sizeLine := by rw [List.length_map, h1.length_eq]; rw [sizeLine_eq]; omega
      exact ⟨.ref _, upd H (s.heap.objs.size + 1) (.lst (out.toList.map bkV)), I.laid (t' := s.toks) (fun _ _ => PyProof.Rows.sortedAll_old) (Nat.le_succ _) ⟨hln, out.toList, ep, i2, he'⟩, rfl, q _ _ (I.hok.fresh (Nat.le_succ _)) i1⟩
  · obtain ⟨xs, m1, m2, m3, m4, m5, m6, m7⟩ := hd.tab I (ok.hK j) sub
    obtain ⟨o, es, ep, ho, hx, hdt, he⟩ := m1
    obtain ⟨kv, t, rv⟩ := tabKeys m6
    obtain ⟨o1, o2⟩ := out_tups I (ok.hK j) sub t rv
    have hsz : es.size = xs.length := by rw [← Array.length_toList, he, List.length_map]
    have hlen : xs.length = nss.length := by have := m6.length; rw [List.length_map] at this; exact this
    refine Calls.call_function_entry kind_sorted plain_sorted entry_sorted (args_sorted1 _) ?_
    unfold Builtin.«sorted»
    refine wpAny_bind (m := checkCount "sorted" 1 1 _) (wpAny_pure ?_)
    refine wpAny_bind (PySem.W.kdu_collect (A := (C.X j).A.in1) (kdl_raw (ep := ep) m2 hx hdt) (I.ok.hd (ok.calm j)) ho (by omega) fun h' tk acc kp it => ?_)
    have ea : acc.toList = xs.map (·.2.1) := by
      have hl : acc.toList.length = xs.length := by rw [Array.length_toList, it.1]; exact hsz
      refine List.ext_getElem? fun i => ?_
      rw [List.getElem?_map]
      cases hi : acc.toList[i]? with
      | none =>
        have h1 := List.getElem?_eq_none_iff.mp hi
        rw [List.getElem?_eq_none (by omega)]; rfl
      | some v =>
        obtain ⟨en, hen, hv⟩ := it.2 i v (by rw [← Array.getElem?_toList]; exact hi)
        rw [← Array.getElem?_toList, he, List.getElem?_map] at hen
        cases hb : xs[i]? with
        | none => rw [hb] at hen; cases hen
        | some b =>
          rw [hb] at hen
          have e2 : en = entV C.g.w b := (Option.some.inj hen).symm
          rw [hv, e2]; rfl
    have hal : acc.toList.length = nss.length := by rw [ea, List.length_map]; exact hlen
    have I1 : Inv (C.X j) pins σ H { s with heap := h', toks := tk } := I.kept kp
    refine wpAny_bind (wpAny_newList ?_ (by rw [hal, sizeLine_eq]; omega))
    have hoL : (h'.push (seqObj "list" acc.toList.toArray 0)).get? h'.objs.size = some (seqObj "list" acc.toList.toArray 0) := Heap.get?_push_size _ rfl
    show wpAny _ _ _ _ _ { s with heap := h'.push (seqObj "list" acc.toList.toArray 0), toks := tk }
    have keep : ∀ b o, s.heap.get? b = some o → o.cls = .type "tuple" → (h'.push (seqObj "list" acc.toList.toArray 0)).get? b = some o := fun b o e _ => Heap.get?_push_of_some _ (kp b o e)
    rw [← ea] at o1 o2
    refine wpAny_bind (wpAny_holding (wpAny_call_entry slot_list_sort ⟨_, hoL, rfl⟩ entry_list_sort
      (TS.sort_tups (d := (nss.headD [0]).length) (B := cBd) (s := { s with heap := h'.push (seqObj "list" acc.toList.toArray 0), toks := tk }) hoL (by rw [hal]; exact k64) k1 (fun v hv => ?_) (fun v => TS.code cBd (TS.intsOf s.heap v)) (fun v hv ns ti => ?_) fun out h1 h2 => ⟨_, rfl, ?_⟩) (args_list_sort _)))
    · obtain ⟨a', ns, _, hn, _, ti⟩ := o1 v hv
      exact ⟨ns, ti.keeps keep, (kd ns hn).1, (kd ns hn).2⟩
    · obtain ⟨a', ns', _, hn, _, ti'⟩ := o1 v hv
      rw [ti'.ints, show ns = ns' from ti.ints.symm.trans (ti'.keeps keep).ints]
    · obtain ⟨i1, i2⟩ := out_back hk o1 o2 h1 h2
      obtain ⟨e', he'⟩ := PyProof.Rows.sortedHeap_at (vs := acc.toList) (out := out) hoL
      have hln : (out.toList.map bkV).length ≤ sizeLine := by rw [List.length_map, h1.length_eq]; rw [sizeLine_eq]; omega
      refine wpAny_pure ⟨_, rfl, .ref h'.objs.size, upd H h'.objs.size (.lst (out.toList.map bkV)), I1.laid (t' := tk) (fun b u e => ?_) (Nat.le_refl _) ⟨hln, out.toList, e', i2, he'⟩, rfl, q _ _ (I1.hok.fresh (Nat.le_refl _)) i1⟩
      have hb : b < h'.objs.size := Heap.lt_size e
      rw [PyProof.Rows.sortedHeap_old (Nat.ne_of_lt hb) (by rw [size_push']; exact Nat.lt_succ_of_lt hb)]
      exact Heap.get?_push_of_some _ e
def sortTs (ds : List D) : Out D := match tups? ds with
  | some nss => if okT nss = true then .ok (.lst ((isortT nss).map tupI)) else .bad
  | none => .bad
def sortO2 : List D → Out D
  | [.lst ds] => match ints? ds with
    | some ns => .ok (.lst ((isort ns).map D.int))
    | none => sortTs ds
  | [.dic ks _] => sortTs ks
  | _ => .bad
theorem c_sort2 (ok : C.Ok) (j : ι) : CallR (C.X j) (.builtin "sorted") (fun xs H Q => rSortedI C.g.K xs H Q ∨ rSortTD C.g xs H Q) := by
  intro pins s σ H xs us Q I r h
  rcases h with h | h
  · exact c_sortI ok j pins s σ H xs us Q I r h
  · exact c_sortTD ok j pins s σ H xs us Q I r h
theorem s_sort2 : CallN C (fun xs H Q => rSortedI C.g.K xs H Q ∨ rSortTD C.g xs H Q) sortO2 := by
  intro B F H μ ρ σ vs ds Q R hv h
  match ds, hv, h with
  | [.lst xs], hv, h =>
    cases e : ints? xs with
    | some ns =>
      refine .inl (s_sortI B F H μ ρ σ vs _ Q R hv ?_)
      unfold sortO2 at h
      unfold sortIO
      simp only [e] at h ⊢
      exact h
    | none =>
      unfold sortO2 sortTs at h
      simp only [e] at h
      cases e2 : tups? xs with
      | none => simp only [e2] at h; exact h.elim
      | some nss =>
        simp only [e2] at h
        by_cases k : okT nss = true
        · simp only [if_pos k] at h
          obtain ⟨u, rfl, hu⟩ := hv.one
          obtain ⟨a, ws, rfl, ha, t⟩ := hu.lst R.sub
          rw [tups?_eq e2] at t
          exact .inr ⟨F, a, nss, rfl, R.sub, k, .inl ⟨ws, ha, t⟩, fun p ys hp hy => Post.lstN h R hp hy⟩
        · simp only [if_neg k] at h; exact h.elim
  | [.dic ks ws], hv, h =>
    unfold sortO2 sortTs at h
    cases e2 : tups? ks with
    | none => simp only [e2] at h; exact h.elim
    | some nss =>
      simp only [e2] at h
      by_cases k : okT nss = true
      · simp only [if_pos k] at h
        obtain ⟨u, rfl, hu⟩ := hv.one
        obtain ⟨a, rfl, hd⟩ := hu.dic R.sub
        rw [tups?_eq e2] at hd
        exact .inr ⟨F, a, nss, rfl, R.sub, k, .inr ⟨ws, hd⟩, fun p ys hp hy => Post.lstN h R hp hy⟩
      · simp only [if_neg k] at h; exact h.elim
end
end PyD

set_option Elab.async false
set_option linter.all false
set_option maxRecDepth 100000
/-! Methods that read: list.index, tuple.index, dict.get. -/
namespace L2X
open PySem PySem.Spec PyProof.Rows L2
section
variable {X : Cx}
theorem mt_tupIdx (hu : X.A.units + 65 < cLine) : MtR X "tuple.index" (rTupIdx X.K) := by
  intro pins s σ H x xs v us Q I rx rxs h
  obtain ⟨a, y, d, ds, j, z, rfl, rfl, hl, hy, sl, sd, hz, hzj, hno, q⟩ := h
  cases rx
  obtain ⟨uy, rfl, ry⟩ := vals1 rxs
  obtain ⟨bs, r1⟩ := Dp.reads I d y uy hy ry
  have hxs : PyData.canLayAll0 ds = true := SeqAt.canLay_of_shaped sl
  have hroom : X.A.units + 1 + min (PyData.depthAll ds) d.depth < cLine := room_in_shaped sd hu
  cases hl with
  | tup hs ha =>
    obtain ⟨its, rv, ⟨⟨cls, dd, data, sls⟩, ho, hc, n, hdt⟩, hlen⟩ := I.tuple hs
    simp only at hc hdt
    subst hc hdt
    obtain ⟨as, h4⟩ := Dp.readsAll I ds _ its ha rv
    have hn : its.length = ds.length := SeqAt.ReadsAll.length ds its as h4
    have hmap : its.map (SeqAt.readOf s.heap) = ds := SeqAt.readsAll_map ds its as hxs h4
    obtain ⟨hjd, _⟩ := List.getElem?_eq_some_iff.mp hz
    have hj : j < its.toArray.size := by rw [List.size_toArray]; omega
    have at_ : ∀ (m : Nat) (hm : m < its.toArray.size) (z' : PyData), ds[m]? = some z' → SeqAt.readOf s.heap its.toArray[m] = z' := fun m hm z' hz' => by
      have hml : m < its.length := by simpa using hm
      rw [← hmap, List.getElem?_map, List.getElem?_eq_getElem hml] at hz'
      have e1 : SeqAt.readOf s.heap its[m] = z' := Option.some.inj hz'
      simpa using e1
    refine call_meets PySem.F.slot_tuple_index ⟨_, ho, rfl⟩ PySem.F.entry_tuple_index (PySem.F.args_tuple_index_2 _ _)
      (TI.tuple_indexAt a its.toArray n dd sls uy (fun u => PyData.eqv (SeqAt.readOf s.heap u) d) j hj ?_ fun m hm hmj => ?_)
      ⟨ho, SeqAt.items_eqAt (vs := its.toArray) (by simpa using h4) r1 hxs (SeqAt.canLay_of_shaped sd) hroom, ⟨.int (j : Nat), H, I.tok _, ⟨_, rfl⟩, q⟩⟩
    · show PyData.eqv (SeqAt.readOf s.heap its.toArray[j]) d = true
      rw [at_ j hj z hz]
      exact hzj
    · have hmd : m < ds.length := by rw [List.size_toArray] at hm; omega
      show PyData.eqv (SeqAt.readOf s.heap its.toArray[m]) d = false
      rw [at_ m hm _ (List.getElem?_eq_getElem hmd)]
      exact hno m _ hmj (List.getElem?_eq_getElem hmd)
/-- the kind of a receiver: 0 a list, 1 a tuple, 2 a dict -/
def tyN (K : PySem.W.Frag) : Nat → V → Hp → Prop
  | 0, x, H => ∃ p xs, x = .ref p ∧ SqL K H p xs
  | 1, x, H => tyW K "tuple" x H
  | 2, x, H => ∃ p ents, x = .ref p ∧ H p = some (PyD.dicO p ents)
  | _, _, _ => False
def tyS : Nat → String
  | 0 => "list"
  | 1 => "tuple"
  | _ => "dict"
theorem tyN_is {pins : List (Addr × Obj)} {σ : L2.St} {H : Hp} {s : Shared} {n : Nat} {x : V} {v : Value} (I : Inv X pins σ H s) (r : RelV x v) (ty : tyN X.K n x H) :
    s.TypeIs v (tyS n) ∧ ∀ a, v = .ref a → ∃ ob, s.heap.get? a = some ob ∧ ob.dict = none := by
  match n, ty with
  | 0, ty =>
    obtain ⟨p, xs, rfl, h⟩ := ty
    exact tyW_is I r (.inl (.inl ⟨rfl, xs, h⟩))
  | 1, ty => exact tyW_is I r ty
  | 2, ty =>
    obtain ⟨p, ents, rfl, h⟩ := ty
    cases r
    obtain ⟨⟨_, _, o, es, ep, ho, hx, _⟩, _⟩ := I.hok p _ h
    refine ⟨⟨o, ho, hx.1⟩, fun a e => ?_⟩
    cases e
    exact ⟨o, ho, hx.2.1⟩
variable {o e : Expr} {es : List Expr} {to : TE} {t : TA} {name : Str} {apos cpos : Pos} {id : Nat → String} {r : Nat → V → List V → Hp → VK → Prop} {S : List Nat}
def tMy (K : PySem.W.Frag) (S : List Nat) (r : Nat → V → List V → Hp → VK → Prop) (to : TE) (t : TA) : TE := fun σ H Q => to σ H fun x H1 => ∃ n ∈ S, tyN K n x H1 ∧ t σ H1 fun xs H2 => r n x xs H2 Q
theorem pe_my (hm : ∀ n ∈ S, PlainAttrs (tyS n) ∧ Slot (tyS n) name (id n) ∧ typeOf (.builtin (id n)) = pure (.type "method_descriptor") ∧ MtR X (id n) (r n)) (ho : PE X o to) (ha : PA X (e :: es) t)
    (hbase : attributeBase o name X.env (eval o X.env) = eval o X.env)
    (hfew : ((backTo cpos (starEach (e :: es) X.env)).all (fun x => !x.1) && (backToKw cpos (keywordEach [] X.env)).all (fun x => x.1.isSome)
      && decide ((e :: es).length + ([] : List Keyword).length + (if ([] : List Keyword).isEmpty then 0 else 1) < 30)) = true)
    (hline : (apos.endLine == cpos.line) = true) (hs : starEach (e :: es) X.env = (false, eval e X.env) :: starEach es X.env) (hplain : (backTo cpos (starEach es X.env)).any (·.1) = false) :
    PE X (.Call (.Attribute o name apos) (e :: es) [] cpos) (tMy X.K S r to t) := by
  refine ⟨fun pins s σ H Q I h => ?_⟩
  refine wpAny_Call_method_late hbase hfew hline rfl (thn (ho.run pins s σ H _ I h) fun v s1 ⟨x, H1, I1, r1, n, hn, ty, q1⟩ => ?_)
  obtain ⟨h1, h2⟩ := tyN_is I1 r1 ty
  obtain ⟨pa, slot, hty, hr⟩ := hm n hn
  refine ⟨tyS n, id n, pa, slot, hty, h1, h2, ?_⟩
  have hA := ha.run cpos pins s1 σ H1 _ I1 q1
  rw [hs] at hA ⊢
  refine Calls.callWith_builtin (by show (false || (backTo cpos (starEach es X.env)).any (·.1)) = false; rw [hplain] <;> rfl) (Calls.evalArgs_plain ?_)
  exact thn hA fun us s2 ⟨vs, H2, I2, r2, q2⟩ => hr pins s2 σ H2 x vs v us Q I2 r1 r2 q2
end
end L2X
namespace PyD
open PySem L2 L2X PyProof.Rows
section
variable {ι : Type} {C : Ctx ι} {μ : List Md} {e a b c : Expr} {es : List Expr} {pos p p2 p3 q : Pos} {x : Str} {g : G} {B : Base} {F H : Hp} {ρ : Env} {σ : L2.St}
def tagD : D → Nat
  | .lst _ => 0
  | .tup _ => 1
  | .dic _ _ => 2
  | .scr _ => 0
  | _ => 9
theorem RdR.tag {v : V} {d : D} (sub : Le F H) (h : RdR g F H v d) (n : tagD d ≠ 9) : tyN g.K (tagD d) v H := by
  cases d with
  | lst ds => obtain ⟨a, vs, rfl, h, _⟩ := h.lst sub; exact ⟨a, vs, rfl, SqL.of h⟩
  | scr ns => obtain ⟨a, rfl, h2⟩ := h.scr sub; exact ⟨a, _, rfl, h2⟩
  | dic ks vs => obtain ⟨a, rfl, ents, nks, h, _⟩ := h.dic sub; exact ⟨a, ents, rfl, h⟩
  | tup ds =>
    have h := h.tupF
    cases h with
    | tup r t =>
      rcases r with ⟨o, r, b⟩ | ⟨o, its, n, h1, h2, h3, _⟩
      · exact .inr ⟨rfl, _, o, _, rfl, sub _ _ r, b⟩
      · exact .inl (.inr (.inl ⟨rfl, o, h1, h2, h3⟩))
  | _ => exact absurd rfl n
/-- a method that reads -/
def MethS (C : Ctx ι) (S : List Nat) (r : Nat → V → List V → Hp → VK → Prop) (f : D → List D → Out D) : Prop := ∀ B F H μ ρ σ v d xs ds Q, tagD d ∈ S → Rel C.g B F H μ ρ σ → RdR C.g F H v d → RdAll C.g F H xs ds →
  Post C B F H μ σ ((f d ds).bind fun d => .ok (d, ρ)) (fun d _ F' H' => ∀ v, Is C.g F' v d → Q v H') → r (tagD d) v xs H Q
def methK (S : List Nat) (f : D → List D → Out D) (a : Arg) (t : Nat) (p : List Arg × Env) : Out (D × Env) := (get a p.2).bind fun x => (gets p.1 p.2).bind fun ds => if tagD x = t then (f x ds).bind fun d => .ok (d, p.2) else .bad
def M.meth (S : List Nat) (f : D → List D → Out D) (oa : Env → Out (Arg × Env)) (ms : Env → Out (List Arg × Env)) : Env → Out (D × Env) := fun ρ => (oa ρ).bind fun p => (get p.1 p.2).bind fun x => if tagD x ∈ S then (ms p.2).bind (methK S f p.1 (tagD x)) else .bad
theorem de_meth (ok : C.Ok) {name : Str} {S : List Nat} {id : Nat → String} {r : Nat → V → List V → Hp → VK → Prop} {f : D → List D → Out D} (h9 : 9 ∉ S)
    (hm : ∀ j, ∀ n ∈ S, PlainAttrs (tyS n) ∧ Slot (tyS n) name (id n) ∧ typeOf (.builtin (id n)) = pure (.type "method_descriptor") ∧ MtR (C.X j) (id n) (r n)) (hs : MethS C S r f)
    {oa : Env → Out (Arg × Env)} {ms : Env → Out (List Arg × Env)} {apos cpos : Pos} {o : Expr} (ho : DO C μ o oa) (ha : DOs C μ (e :: es) ms)
    (hbase : ∀ j, attributeBase o name (C.X j).env (eval o (C.X j).env) = eval o (C.X j).env := by intro _; rfl)
    (hfew : ∀ j, ((backTo cpos (starEach (e :: es) (C.X j).env)).all (fun x => !x.1) && (backToKw cpos (keywordEach [] (C.X j).env)).all (fun x => x.1.isSome)
      && decide ((e :: es).length + ([] : List Keyword).length + (if ([] : List Keyword).isEmpty then 0 else 1) < 30)) = true := by intro _; rfl)
    (hline : (apos.endLine == cpos.line) = true := by rfl) (hst : ∀ j, starEach (e :: es) (C.X j).env = (false, eval e (C.X j).env) :: starEach es (C.X j).env := by intro _; rfl) (hpl : ∀ j, (backTo cpos (starEach es (C.X j).env)).any (·.1) = false := by intro _; rfl) :
    DE C μ (.Call (.Attribute o name apos) (e :: es) [] cpos) (M.meth S f oa ms) := by
  obtain ⟨to, po, so⟩ := ho
  obtain ⟨ta, pa, sa⟩ := ha
  refine ⟨tMy C.g.K S r to ta, fun j => ?_, fun B F H ρ σ Q R h => so B F H ρ σ _ R ((Post.bnd h).imp fun y ρ1 F1 H1 R1 S1 k v hv => ?_)⟩
  · rw [← ok.hK j]
    exact pe_my (hm j) (po j) (pa j) (hbase j) (hfew j) hline (hst j) (hpl j)
  · have k : Post C B F1 H1 μ σ ((get y ρ1).bind fun x => if tagD x ∈ S then (ms ρ1).bind (methK S f y (tagD x)) else .bad) _ := k
    cases ey : get y ρ1 with
    | exc z => exact absurd ey (get_ne _ _ _)
    | bad => rw [ey] at k; exact k.elim
    | ok d0 =>
      rw [ey] at k
      replace k : Post C B F1 H1 μ σ (if tagD d0 ∈ S then (ms ρ1).bind (methK S f y (tagD d0)) else .bad) _ := k
      by_cases hS : tagD d0 ∈ S
      · rw [if_pos hS] at k
        refine ⟨_, hS, (R1.arg hv ey).tag R1.sub (fun z => h9 (z ▸ hS)), sa B F1 H1 ρ1 σ _ R1 ((Post.bnd k).imp fun as ρ2 F2 H2 R2 S2 k2 vs hvs => ?_)⟩
        have hv2 := hv.mono S2.f
        have k2 : Post C B F2 H2 μ σ ((get y ρ2).bind fun x => (gets as ρ2).bind fun ds => if tagD x = tagD d0 then (f x ds).bind fun d => .ok (d, ρ2) else .bad) _ := k2
        cases e2 : get y ρ2 with
        | exc z => exact absurd e2 (get_ne _ _ _)
        | bad => rw [e2] at k2; exact k2.elim
        | ok d1 =>
          rw [e2] at k2
          replace k2 : Post C B F2 H2 μ σ ((gets as ρ2).bind fun ds => if tagD d1 = tagD d0 then (f d1 ds).bind fun d => .ok (d, ρ2) else .bad) _ := k2
          cases eg : gets as ρ2 with
          | exc z => exact absurd eg (gets_ne _ _ _)
          | bad => rw [eg] at k2; exact k2.elim
          | ok ds =>
            rw [eg] at k2
            replace k2 : Post C B F2 H2 μ σ (if tagD d1 = tagD d0 then (f d1 ds).bind fun d => .ok (d, ρ2) else .bad) _ := k2
            by_cases ht : tagD d1 = tagD d0
            · rw [if_pos ht] at k2
              rw [← ht]
              exact hs B F2 H2 μ ρ2 σ v d1 vs ds Q (ht ▸ hS) R2 (R2.arg hv2 e2) (R2.args hvs eg) k2
            · rw [if_neg ht] at k2; exact k2.elim
      · rw [if_neg hS] at k; exact k.elim

/-! ### x.index(y) -/
def idxO (d : D) (ys : List D) : Out D := match ys with
  | [y] => (items d).bind fun ds => if shp d = true ∧ shp y = true then (match ds.findIdx? (fun z => eqD z y) with
    | some j => .ok (.int (j : Nat))
    | none => .bad) else .bad
  | _ => .bad
def rIdxN (K : PySem.W.Frag) : Nat → V → List V → Hp → VK → Prop
  | 0 => rIndexD K
  | _ => rTupIdx K
def idIdx : Nat → String
  | 0 => "list.index"
  | _ => "tuple.index"
theorem m_idx (ok : C.Ok) (j : ι) : ∀ n ∈ [0, 1], PlainAttrs (tyS n) ∧ Slot (tyS n) "index" (idIdx n) ∧ typeOf (.builtin (idIdx n)) = pure (.type "method_descriptor") ∧ MtR (C.X j) (idIdx n) (rIdxN C.g.K n) := by
  intro n hn
  have u := units66 (ok.room j)
  have h1 := mt_indexD (X := C.X j) (by omega)
  have h2 := mt_tupIdx (X := C.X j) (by omega)
  rw [ok.hK j] at h1 h2
  rcases List.mem_cons.mp hn with rfl | hn
  · exact ⟨PySem.F.plainAttrs_list, PySem.F.slot_list_index, PySem.F.type_list_index, h1⟩
  · rw [List.mem_singleton] at hn; subst hn
    exact ⟨PySem.F.plainAttrs_tuple, PySem.F.slot_tuple_index, PySem.F.type_tuple_index, h2⟩
theorem find_py {y : D} : ∀ {ds : List D} {j : Nat}, ds.findIdx? (fun z => eqD z y) = some j → ∃ z, (toPys ds)[j]? = some z ∧ PyData.eqv z (toPy y) = true ∧ ∀ (m : Nat) (z' : PyData), m < j → (toPys ds)[m]? = some z' → PyData.eqv z' (toPy y) = false
  | [], j, h => by simp at h
  | d :: ds, j, h => by
    unfold toPys
    rw [List.findIdx?_cons] at h
    by_cases q : eqD d y = true
    · rw [if_pos q] at h
      cases h
      exact ⟨_, rfl, q, fun m z' hm _ => absurd hm (Nat.not_lt_zero _)⟩
    · rw [if_neg q] at h
      cases e : ds.findIdx? (fun z => eqD z y) with
      | none => rw [e] at h; cases h
      | some i =>
        rw [e] at h
        cases h
        obtain ⟨z, z1, z2, z3⟩ := find_py e
        refine ⟨z, by rw [List.getElem?_cons_succ]; exact z1, z2, fun m z' hm hz => ?_⟩
        cases m with
        | zero =>
          rw [List.getElem?_cons_zero] at hz
          cases hz
          exact Bool.eq_false_iff.mpr q
        | succ m =>
          rw [List.getElem?_cons_succ] at hz
          exact z3 m z' (Nat.lt_of_succ_lt_succ hm) hz
theorem s_idx : MethS C [0, 1] (rIdxN C.g.K) idxO := by
  intro B F H μ ρ σ v d xs ds Q ht R rd rs h
  match ds, rs, h with
  | [y], rs, h =>
    obtain ⟨u, rfl, ru⟩ := rs.one
    unfold idxO at h
    cases d with
    | lst ws =>
      replace h : Post C B F H μ σ ((if shp (.lst ws) = true ∧ shp y = true then (match ws.findIdx? (fun z => eqD z y) with
        | some j => Out.ok (D.int (j : Nat))
        | none => .bad) else .bad).bind fun d => .ok (d, ρ)) _ := h
      by_cases q : shp (.lst ws) = true ∧ shp y = true
      · rw [if_pos q] at h
        cases e : ws.findIdx? (fun z => eqD z y) with
        | none => simp only [e] at h; exact h.elim
        | some j =>
          simp only [e] at h
          obtain ⟨z, z1, z2, z3⟩ := find_py e
          obtain ⟨a, vs, rfl, ha, t⟩ := rd.lst R.sub
          have hd := rd.dp R.sub (lay_shp q.1)
          have s2 := q.1
          unfold shp at s2
          unfold toPy at hd s2
          exact ⟨a, u, toPy y, toPys ws, j, z, rfl, rfl, hd, ru.dp R.sub (lay_shp q.2), s2, q.2, z1, z2, z3, h.sc R (.int _)⟩
      · rw [if_neg q] at h; exact h.elim
    | tup ws =>
      replace h : Post C B F H μ σ ((if shp (.tup ws) = true ∧ shp y = true then (match ws.findIdx? (fun z => eqD z y) with
        | some j => Out.ok (D.int (j : Nat))
        | none => .bad) else .bad).bind fun d => .ok (d, ρ)) _ := h
      by_cases q : shp (.tup ws) = true ∧ shp y = true
      · rw [if_pos q] at h
        cases e : ws.findIdx? (fun z => eqD z y) with
        | none => simp only [e] at h; exact h.elim
        | some j =>
          simp only [e] at h
          obtain ⟨z, z1, z2, z3⟩ := find_py e
          obtain ⟨a, vs, rfl, ha, t⟩ := rd.tup R.sub
          have hd := rd.dp R.sub (lay_shp q.1)
          have s2 := q.1
          unfold shp at s2
          unfold toPy at hd s2
          exact ⟨a, u, toPy y, toPys ws, j, z, rfl, rfl, hd, ru.dp R.sub (lay_shp q.2), s2, q.2, z1, z2, z3, h.sc R (.int _)⟩
      · rw [if_neg q] at h; exact h.elim
    | _ => exact h.elim
  | [], _, h => exact h.elim
  | _ :: _ :: _, _, h => exact h.elim
end
end PyD

set_option Elab.async false
set_option linter.all false
set_option maxRecDepth 100000
namespace PyD
open PySem L2 L2X PyProof.Rows
/-! ### displays of dicts -/
section
variable {ι : Type} {C : Ctx ι} {μ : List Md} {e a b c : Expr} {es : List Expr} {pos p p2 p3 q : Pos} {x : Str} {g : G} {B : Base} {F F' H : Hp} {ρ : Env} {σ : L2.St}
inductive PrsR (g : G) (F : Hp) : List (V × V) → List (D × D) → Prop
  | nil : PrsR g F [] []
  | cons {k v : V} {d e : D} {ps : List (V × V)} {ds : List (D × D)} : Is g F k d → Is g F v e → PrsR g F ps ds → PrsR g F ((k, v) :: ps) ((d, e) :: ds)
theorem PrsR.mono (h : Le F F') : ∀ {ps : List (V × V)} {ds : List (D × D)}, PrsR g F ps ds → PrsR g F' ps ds
  | _, _, .nil => .nil
  | _, _, .cons a b t => .cons (a.mono h) (b.mono h) (PrsR.mono h t)
theorem PrsR.length : ∀ {ps : List (V × V)} {ds : List (D × D)}, PrsR g F ps ds → ps.length = ds.length
  | _, _, .nil => rfl
  | _, _, .cons a b t => by rw [List.length_cons, List.length_cons, t.length]
def mkD : List (D × D) → List D → List D → D
  | [], ks, vs => .dic ks vs
  | (k, v) :: r, ks, vs => mkD r (dputK ks vs k) (dputV ks vs k v)
def dispO (ps : List (D × D)) : Out D := if ps.length ≤ 15 ∧ (ps.all fun p => okKey p.1) = true then .ok (mkD ps [] []) else .bad
theorem mk_tab {X : Cx} {pins : List (Addr × Obj)} {s : Shared} (I : Inv X pins σ H s) (hK : X.K = g.K) (sub : Le F H) : ∀ {ps : List (V × V)} {ds : List (D × D)} {ws : List (Value × Value)} {acc : List KEnt} {ks vs : List D}, PrsR g F ps ds → VV ps ws → (ds.all fun p => okKey p.1) = true →
    TabR g F acc ks vs → (acc.map (·.1)).Nodup → (∀ x ∈ acc, x.1.depth ≤ 8) →
    ∃ xs : List KEnt, ws = xs.map (fun x => (x.2.1, x.2.2)) ∧ (∀ x ∈ xs, KIs s.heap x.1 x.2.1) ∧ xs.length = ds.length ∧ ((xs.foldl (fun a x => stoV a x.1 x.2.1 x.2.2) acc).map (·.1)).Nodup ∧ (∀ x ∈ xs.foldl (fun a x => stoV a x.1 x.2.1 x.2.2) acc, x.1.depth ≤ 8) ∧
      (xs.foldl (fun a x => stoV a x.1 x.2.1 x.2.2) acc).length ≤ acc.length + ds.length ∧ ∃ k' v', mkD ds ks vs = .dic k' v' ∧ TabR g F (xs.foldl (fun a x => stoV a x.1 x.2.1 x.2.2) acc) k' v'
  | [], [], _, acc, ks, vs, .nil, r, _, t, hn, hd => by
    cases r
    exact ⟨[], rfl, (fun x hx => nomatch hx), rfl, hn, hd, Nat.le_refl _, ks, vs, rfl, t⟩
  | _ :: ps, (d, e) :: ds, _, acc, ks, vs, .cons a b r, rv, hk, t, hn, hd => by
    cases rv with
    | @cons _ w _ ws r1 r2 =>
      rw [List.all_cons, Bool.and_eq_true] at hk
      obtain ⟨k, k1, k2⟩ := okKey_of hk.1
      obtain ⟨xs, x1, x2, x3, x4, x5, x6, k', v', x7, x8⟩ := mk_tab I hK sub (acc := stoV acc k w.1 w.2) r r2 hk.2 (t.sto k1 r1.1 a r1.2 b) (stoV_nodup hn) (fun y hy => by
        rcases stoV_mem hy with e | ⟨z, hz, e⟩
        · rw [e]; exact k2
        · rw [← e]; exact hd z hz)
      refine ⟨(k, w.1, w.2) :: xs, by rw [x1]; rfl, fun y hy => ?_, by rw [List.length_cons, List.length_cons, x3], x4, x5, ?_, k', v', x7, x8⟩
      · rcases List.mem_cons.mp hy with rfl | hy
        · exact ⟨Is.kis I hK sub a k1 r1.1, k2⟩
        · exact x2 y hy
      · rw [List.foldl_cons, List.length_cons]
        refine Nat.le_trans x6 ?_
        have := stoV_len acc k w.1 w.2
        omega
def DPs (C : Ctx ι) (μ : List Md) (pos : Pos) (ks : List (Option Expr)) (vs : List Expr) (m : Env → Out (List (D × D) × Env)) : Prop :=
  ∃ trs : List (TE × TE), (∀ j, PPs (C.X j) pos ks vs trs) ∧ ∀ B F H ρ σ Q, Rel C.g B F H μ ρ σ → Post C B F H μ σ (m ρ) (fun ps _ F' H' => ∀ vs, PrsR C.g F' vs ps → Q vs H') → tPairs trs σ H Q
def M.pcons (mk mv : Env → Out (D × Env)) (r : Env → Out (List (D × D) × Env)) : Env → Out (List (D × D) × Env) := fun ρ => (mk ρ).bind fun p => (mv p.2).bind fun q => (r q.2).bind fun t => .ok ((p.1, q.1) :: t.1, t.2)
theorem dps_nil : DPs C μ pos [] [] M.nil := ⟨[], fun _ => pps_nil, fun B F H ρ σ Q R h => h.now R [] .nil⟩
theorem dps_cons {k v : Expr} {ks : List (Option Expr)} {vs : List Expr} {mk mv : Env → Out (D × Env)} {r : Env → Out (List (D × D) × Env)} (hk : DE C μ k mk) (hv : DE C μ v mv) (hr : DPs C μ pos ks vs r) : DPs C μ pos (some k :: ks) (v :: vs) (M.pcons mk mv r) := by
  obtain ⟨t1, p1, s1⟩ := hk
  obtain ⟨t2, p2, s2⟩ := hv
  obtain ⟨t3, p3, s3⟩ := hr
  refine ⟨(t1, t2) :: t3, fun j => pps_cons (p1 j) (p2 j) (p3 j), fun B F H ρ σ Q R h => ?_⟩
  refine s1 B F H ρ σ _ R ((Post.bnd h).imp fun d ρ1 F1 H1 R1 S1 k1 u hu => ?_)
  refine s2 B F1 H1 ρ1 σ _ R1 ((Post.bnd k1).imp fun e ρ2 F2 H2 R2 S2 k2 w hw => ?_)
  refine s3 B F2 H2 ρ2 σ _ R2 ((Post.bnd k2).imp fun ds ρ3 F3 H3 R3 S3 k3 ps hps => ?_)
  exact k3.now R3 _ (.cons ((hu.mono S2.f).mono S3.f) (hw.mono S3.f) hps)
/-- {k: v, ..}: the new dict stands empty while the pairs are made -/
def tDispV (g : G) (trs : List (TE × TE)) : TE := fun σ H Q => ∀ p, H p = none → tPairs trs σ (upd H p (dicO p [])) fun ps H2 => H2 p = some (dicO p []) ∧ ∃ F ds, Le F H2 ∧ PrsR g F ps ds ∧ ds.length ≤ 15 ∧ (ds.all fun p => okKey p.1) = true ∧
  ∀ ob, CellR g F p ob (mkD ds [] []) → Q (.ref p) (upd H2 p ob)
theorem dicO_new {P : Program} {w : World} {H : Hp} (h : Heap) (hb : sysModules < h.objs.size) : ObjOk P w H (h.push { cls := .type "dict", data := .dict #[] }) h.objs.size (dicO h.objs.size []) := by
  refine ⟨⟨beq_eq_false_iff_ne.mpr (Ne.symm (Nat.ne_of_lt hb)), Nat.zero_le _, _, #[], 0, Heap.get?_push_size _ rfl, ⟨rfl, rfl, rfl⟩, rfl, .nil⟩, ⟨_, Heap.get?_push_size _ rfl⟩, fun h1 h2 q k => ?_⟩
  obtain ⟨a1, a2, o, es, ep, ho, r⟩ := q
  exact ⟨a1, a2, o, es, ep, k _ ho, r⟩
theorem pe_dispV (ok : C.Ok) (j : ι) {ks : List (Option Expr)} {vs : List Expr} {trs : List (TE × TE)} (h : PPs (C.X j) pos ks vs trs) (hall : ks.all (·.isSome) = true) (hl : ks.length = vs.length) (h0 : ks ≠ []) (h15 : ks.length ≤ 15) : PE (C.X j) (.Dict ks vs pos) (tDispV C.g trs) := by
  refine ⟨fun pins s σ H Q I q => ?_⟩
  have hn := I.hok.fresh (Nat.le_refl s.heap.objs.size)
  have I1 := I.laid (a := s.heap.objs.size) (o := dicO s.heap.objs.size []) (h' := s.heap.push { cls := .type "dict", data := .dict #[] }) (t' := s.toks) (fun _ _ q => Heap.get?_push_of_some _ q) (Nat.le_refl _) (dicO_new s.heap I.big)
  have u9 := units9 (ok.room j)
  refine dispV (by omega) hall hl h0 h15 (thn (h.run pins _ σ _ _ I1 (q _ hn)) fun ws s2 ⟨ps, H2, I2, rel, e, F, ds, sub, pr, d15, dk, q2⟩ => ?_)
  obtain ⟨xs, x1, x2, x3, x4, x5, x6, k', v', x7, x8⟩ := mk_tab I2 (ok.hK j) sub (acc := []) pr rel dk .nil List.nodup_nil (fun x hx => nomatch hx)
  obtain ⟨⟨lo, _, o, es, ep, ho, hx, hd, pr0⟩, _⟩ := I2.hok _ _ e
  have he0 : es.toList = [] := by
    cases hh : es.toList with
    | nil => rfl
    | cons y ys => rw [hh] at pr0; cases pr0
  refine ⟨xs, x1, x2, ⟨o, es, ep, ho, hx, hd, by rw [he0]; rfl⟩, fun h' tk hm hs => ?_⟩
  have hx' : ∃ q, h'.get? s.heap.objs.size = some q := let ⟨o, _, _, ho, _⟩ := hm; ⟨o, ho⟩
  rw [List.length_nil] at x6
  obtain ⟨ents', h1, h2⟩ := dicO_ok (P := (C.X j).prog) (w := (C.X j).w) (H' := upd H2 s.heap.objs.size (dicO s.heap.objs.size [])) (ok.hw j) lo (by rw [sizeLine_eq]; omega) hm x8 x4 x5
  rw [← x7] at h2
  exact ⟨.ref s.heap.objs.size, upd H2 s.heap.objs.size (dicO s.heap.objs.size ents'), d_write I2 (by rw [e]; exact True.intro) hs hx' h1, rfl, q2 _ (h2 F (Le.refl F))⟩
def M.disp (m : Env → Out (List (D × D) × Env)) : Env → Out (D × Env) := fun ρ => (m ρ).bind fun p => (dispO p.1).bind fun d => .ok (d, p.2)
theorem dn_disp (ok : C.Ok) {ks : List (Option Expr)} {vs : List Expr} {m : Env → Out (List (D × D) × Env)} (h : DPs C μ pos ks vs m) (hall : ks.all (·.isSome) = true := by rfl) (hl : ks.length = vs.length := by rfl) (h0 : ks ≠ [] := by simp) (h15 : ks.length ≤ 15 := by decide) :
    DN C μ (.Dict ks vs pos) (M.disp m) := by
  obtain ⟨trs, pt, st⟩ := h
  refine ⟨tDispV C.g trs, fun j => pe_dispV ok j (pt j) hall hl h0 h15, fun B F H ρ σ Q R h p hp => ?_⟩
  have fr := R.toBx.fresh hp
  refine st B F (upd H p (dicO p [])) ρ σ _ (R.newH hp (dicO p [])) ?_
  unfold M.disp at h
  have np : ¬ Own μ σ p := fun ⟨i, hm, hs⟩ => by
    obtain ⟨d, hd⟩ := R.there i hm
    obtain ⟨a, o, e1, e2, _⟩ := R.own_there hm hd
    rw [hs] at e1; cases e1
    rw [hp] at e2; cases e2
  match hm : m ρ with
  | .exc z => rw [hm] at h; exact h
  | .bad => rw [hm] at h; exact h
  | .ok (ds, ρ1) =>
    intro F2 H2 R2 S2 ps hps
    rw [hm] at h
    replace h : Post C B F H μ σ ((dispO ds).bind fun d => .ok (d, ρ1)) _ := h
    have e2 : H2 p = some (dicO p []) := S2.h p _ upd_same np
    have S0 : Step μ σ F H F2 H2 := (Step.newH hp).trans S2
    unfold dispO at h
    by_cases q : ds.length ≤ 15 ∧ (ds.all fun p => okKey p.1) = true
    · rw [if_pos q] at h
      refine ⟨e2, F2, ds, R2.sub, hps, q.1, q.2, fun ob hob => ?_⟩
      have hF : F2 p = none := by rw [S2.n p _ upd_same]; exact fr.1
      have fr2 : Rel C.g B F2 (upd H2 p ob) μ ρ1 σ := R2.free hF np fr.2.1 fr.2.2
      refine h F2 (upd H2 p ob) fr2 ⟨S0.f, fun a o ha ho => ?_, S0.n, fun a o ha => ?_⟩ p ob upd_same hp hF hob
      · rw [upd_ne (ne_of_none ha hp)]; exact S0.h a o ha ho
      · rw [upd_ne (ne_of_none ha hp)]; exact S0.t a o ha
    · rw [if_neg q] at h; exact h.elim
/-- {} -/
theorem dn_disp0 (ok : C.Ok) : DN C μ (.Dict [] [] pos) (M.cst (.dic [] [])) := by
  refine ⟨fun σ H Q => ∀ p, H p = none → Q (.ref p) (upd H p (dicO p [])), fun j => ⟨fun pins s σ H Q I h => ?_⟩, fun B F H ρ σ Q R h p hp => ?_⟩
  · exact wpAny_Dict_empty ⟨.ref s.heap.objs.size, _, I.laid (a := s.heap.objs.size) (o := dicO s.heap.objs.size []) (t' := s.toks) (fun _ _ q => Heap.get?_push_of_some _ q) (Nat.le_refl _) (dicO_new s.heap I.big), rfl, h _ (I.hok.fresh (Nat.le_refl _))⟩
  · exact h F (upd H p (dicO p [])) (R.newH hp _) (Step.newH hp) p _ upd_same hp (R.toBx.fresh hp).1 (.dic (nks := []) .nil .nil ⟨by unfold keysOf; rfl, (fun k hk => nomatch hk), List.nodup_nil, rfl⟩)

/-! ### x[i] = e of an owned list or dict -/
def sto2 (i : Nat) (v k : D) (ρ : Env) : SOut := match ρ[i]? with
  | some (some c) => (match stoO c k v with
    | .ok c' => .nx (ρ.set i (some c'))
    | _ => .bad)
  | _ => .bad
def M.store2 (i : Nat) (mv mi : Env → Out (D × Env)) : Env → SOut := fun ρ => (mv ρ).then fun p => (mi p.2).then fun q => sto2 i p.1 q.1 q.2
theorem ds_store2 (ok : C.Ok) (i : Nat) (hx : C.vs[i]? = some (some x)) (hm : md μ i = .ow) {ie : Expr} {spos apos : Pos} {mv mi : Env → Out (D × Env)} {rm : Md} {μL : List Md} (hv : DE C μ e mv) (hi : DE C μ ie mi)
    (ha : ∀ j v, assign (.Subscript (.Name x p) ie spos) (C.X j).env v = (do
      let ov ← holding [v] (eval (.Name x p) (C.X j).env)
      let iv ← holding [v, ov] (eval ie (C.X j).env)
      standAt spos
      holding [v, ov, iv] (setItem ov iv v)
      release [v, ov, iv] []) := by intro _ _; rfl)
    (hs : ∀ j, swapsWithSole [.Subscript (.Name x p) ie spos] e apos.line (C.X j).env = pure false := by intro _; rfl) (hw : ∀ j, swappedStores [.Subscript (.Name x p) ie spos] e (C.X j).env = pure none := by intro _; rfl)
    (h1 : ∀ j, (assignEach [.Subscript (.Name x p) ie spos] (C.X j).env).map (·.2) = [assign (.Subscript (.Name x p) ie spos) (C.X j).env] := by intro _; rfl) :
    DS C rm μL μ (.Assign [.Subscript (.Name x p) ie spos] e apos) μ (M.store2 i mv mi) := by
  obtain ⟨tv, pv, sv⟩ := hv
  obtain ⟨ti, pi, si⟩ := hi
  refine ⟨tAsg tv (gSub (tVar i) ti (fun o i v H Q => rSetL o i v H Q ∨ rSetD C.g o i v H Q)), fun j => ?_, fun B F H ρ σ D hp R h => ?_⟩
  · obtain ⟨h1', h2, h3, h4⟩ := ok.vis j i x hx
    have hset : PSet (C.X j) (fun o i v H Q => rSetL o i v H Q ∨ rSetD C.g o i v H Q) := by
      intro pins s σ H o i v ov iv u Q I ro ri rv h
      rcases h with h | h
      · exact set_list pins s σ H o i v ov iv u Q I ro ri rv h
      · exact set_dic ok j pins s σ H o i v ov iv u Q I ro ri rv h
    exact ps_asg (pv j) (pg_sub (pe_var (by rw [ok.hN j]; exact h1') h2 h3 h4) (pi j) hset (ha j)) (hs j) (hw j) (h1 j)
  · refine sv B F H ρ σ _ R ((SPost.of h).imp fun d ρ1 F1 H1 R1 S1 k v hv => ?_)
    obtain ⟨d0, hd0⟩ := R1.there i hm
    obtain ⟨l, o, y1, y2, y3, y4, y5⟩ := R1.own_there hm hd0
    refine ⟨.ref l, y1, ?_⟩
    refine si B F1 H1 ρ1 σ _ R1 ((SPost.of k).imp fun di ρ2 F2 H2 R2 S2 k w hw => ?_)
    have k : SPost C B F2 μ μL rm D (sto2 i d di ρ2) := k
    rcases hr : ρ2[i]? with _ | (_ | d2)
    · simp only [sto2, hr] at k; exact k.elim
    · simp only [sto2, hr] at k; exact k.elim
    · cases e1 : stoO d2 di d with
      | exc z => simp only [sto2, hr, e1] at k; exact k.elim
      | bad => simp only [sto2, hr, e1] at k; exact k.elim
      | ok c' =>
        simp only [sto2, hr, e1] at k
        obtain ⟨l', o', z1, z2, z3, z4, z5⟩ := R2.own_there hm hr
        rw [y1] at z1; cases z1
        have hv2 := Is.mono S2.f hv
        cases z3 with
        | lst t =>
          rename_i ws ds
          cases hw with
          | int n =>
            replace e1 : (match ixN ds.length n with
              | some j => Out.ok (PyD.D.lst (ds.set j d))
              | none => .bad) = .ok c' := e1
            cases e2 : ixN ds.length n with
            | none => rw [e2] at e1; cases e1
            | some j =>
              rw [e2] at e1
              cases e1
              exact .inl ⟨l, _, n, j, rfl, rfl, z2, by rw [t.length]; exact e2, k F2 _ σ (R2.mut hm hr y1 (.lst (IsAll.set hv2 j t))) (Le.refl _)⟩
          | _ => unfold stoO at e1; cases e1
        | dic tk tv hk =>
          rename_i ents ks vs nks
          have e1 : (if okKey di = true ∧ ks.length < 100000 then Out.ok (.dic (dputK ks vs di) (dputV ks vs di d)) else .bad) = .ok c' := by
            unfold stoO at e1; exact e1
          by_cases q : okKey di = true ∧ ks.length < 100000
          · rw [if_pos q] at e1
            cases e1
            exact .inr ⟨F2, l, ks, vs, di, d, rfl, R2.sub, ⟨_, _, z2, tk, tv, hk⟩, hw, q.1, q.2, hv2, fun ob hob => k F2 _ σ (R2.mut hm hr y1 hob) (Le.refl _)⟩
          · rw [if_neg q] at e1; cases e1
end
end PyD

set_option Elab.async false
set_option linter.all false
set_option maxRecDepth 100000
/-! Short forms for printed derivations. -/
namespace PyD
open PySem L2 L2X PyProof.Rows
section
variable {ι : Type} {C : Ctx ι} {μ : List Md} {e a b c e2 : Expr} {es : List Expr} {pos p p2 p3 q : Pos} {x : Str} {rm : Md} {μL μ' : List Md}
def glB (sc : Scope) (x : Str) : Bool := sc.names.lookup x == some .globalImplicit
theorem gl (ok : C.Ok) (h : glB C.sc x = true) : ∀ j, Gl (C.X j) x := fun j => by
  have : (C.X j).env.scope.names.lookup x = some .globalImplicit := by rw [ok.hsc j]; exact eq_of_beq h
  exact this
theorem x_len (ok : C.Ok) (hm : C.g.mg "len" = none) {ms : Env → Out (List Arg × Env)} (ha : DOs C μ (e :: es) ms) (hg : glB C.sc "len" = true := by kernel_rfl!)
    (he : ∀ j, starEach (e :: es) (C.X j).env = (false, eval e (C.X j).env) :: starEach es (C.X j).env := by intro _; rfl) (hpl : ∀ j, (backTo pos (starEach es (C.X j).env)).any (·.1) = false := by intro _; rfl) :
    DE C μ (.Call (.Name "len" p) (e :: es) [] pos) (M.callB lenO2 ms) := de_callB ok (c_len2 ok) s_len2 (gl ok hg) hm (by decide +kernel) ha (by decide) (by decide) he hpl
theorem x_min (ok : C.Ok) (hm : C.g.mg "min" = none) {ms : Env → Out (List Arg × Env)} (ha : DOs C μ (e :: es) ms) (hg : glB C.sc "min" = true := by kernel_rfl!)
    (he : ∀ j, starEach (e :: es) (C.X j).env = (false, eval e (C.X j).env) :: starEach es (C.X j).env := by intro _; rfl) (hpl : ∀ j, (backTo pos (starEach es (C.X j).env)).any (·.1) = false := by intro _; rfl) :
    DE C μ (.Call (.Name "min" p) (e :: es) [] pos) (M.callB min2O ms) := de_callB ok (c_min2 ok) s_min2 (gl ok hg) hm (by decide +kernel) ha (by decide) (by decide) he hpl
theorem x_max (ok : C.Ok) (hm : C.g.mg "max" = none) {ms : Env → Out (List Arg × Env)} (ha : DOs C μ (e :: es) ms) (hg : glB C.sc "max" = true := by kernel_rfl!)
    (he : ∀ j, starEach (e :: es) (C.X j).env = (false, eval e (C.X j).env) :: starEach es (C.X j).env := by intro _; rfl) (hpl : ∀ j, (backTo pos (starEach es (C.X j).env)).any (·.1) = false := by intro _; rfl) :
    DE C μ (.Call (.Name "max" p) (e :: es) [] pos) (M.callB max2O ms) := de_callB ok (c_max2 ok) s_max2 (gl ok hg) hm (by decide +kernel) ha (by decide) (by decide) he hpl
theorem x_all (ok : C.Ok) (hm : C.g.mg "all" = none) {ms : Env → Out (List Arg × Env)} (ha : DOs C μ (e :: es) ms) (hg : glB C.sc "all" = true := by kernel_rfl!)
    (he : ∀ j, starEach (e :: es) (C.X j).env = (false, eval e (C.X j).env) :: starEach es (C.X j).env := by intro _; rfl) (hpl : ∀ j, (backTo pos (starEach es (C.X j).env)).any (·.1) = false := by intro _; rfl) :
    DE C μ (.Call (.Name "all" p) (e :: es) [] pos) (M.callB allO ms) := de_callB ok (c_all ok) s_all (gl ok hg) hm (by decide +kernel) ha (by decide) (by decide) he hpl
theorem x_any (ok : C.Ok) (hm : C.g.mg "any" = none) {ms : Env → Out (List Arg × Env)} (ha : DOs C μ (e :: es) ms) (hg : glB C.sc "any" = true := by kernel_rfl!)
    (he : ∀ j, starEach (e :: es) (C.X j).env = (false, eval e (C.X j).env) :: starEach es (C.X j).env := by intro _; rfl) (hpl : ∀ j, (backTo pos (starEach es (C.X j).env)).any (·.1) = false := by intro _; rfl) :
    DE C μ (.Call (.Name "any" p) (e :: es) [] pos) (M.callB anyO ms) := de_callB ok (c_any ok) s_any (gl ok hg) hm (by decide +kernel) ha (by decide) (by decide) he hpl
theorem x_sum (ok : C.Ok) (hm : C.g.mg "sum" = none) {ms : Env → Out (List Arg × Env)} (ha : DOs C μ (e :: es) ms) (hg : glB C.sc "sum" = true := by kernel_rfl!)
    (he : ∀ j, starEach (e :: es) (C.X j).env = (false, eval e (C.X j).env) :: starEach es (C.X j).env := by intro _; rfl) (hpl : ∀ j, (backTo pos (starEach es (C.X j).env)).any (·.1) = false := by intro _; rfl) :
    DE C μ (.Call (.Name "sum" p) (e :: es) [] pos) (M.callB sumO ms) := de_callB ok (c_sum ok) s_sum (gl ok hg) hm (by decide +kernel) ha (by decide) (by decide) he hpl
theorem x_sort (ok : C.Ok) (hm : C.g.mg "sorted" = none) {ms : Env → Out (List Arg × Env)} (ha : DOs C μ (e :: es) ms) (hg : glB C.sc "sorted" = true := by kernel_rfl!)
    (he : ∀ j, starEach (e :: es) (C.X j).env = (false, eval e (C.X j).env) :: starEach es (C.X j).env := by intro _; rfl) (hpl : ∀ j, (backTo pos (starEach es (C.X j).env)).any (·.1) = false := by intro _; rfl) :
    DN C μ (.Call (.Name "sorted" p) (e :: es) [] pos) (M.callB sortO2 ms) := dn_callB ok (c_sort2 ok) s_sort2 (gl ok hg) hm (by decide +kernel) ha (by decide) (by decide) he hpl
theorem x_tup (ok : C.Ok) (hm : C.g.mg "tuple" = none) {ms : Env → Out (List Arg × Env)} (ha : DOs C μ (e :: es) ms) (hg : glB C.sc "tuple" = true := by kernel_rfl!)
    (he : ∀ j, starEach (e :: es) (C.X j).env = (false, eval e (C.X j).env) :: starEach es (C.X j).env := by intro _; rfl) (hpl : ∀ j, (backTo pos (starEach es (C.X j).env)).any (·.1) = false := by intro _; rfl) :
    DE C μ (.Call (.Name "tuple" p) (e :: es) [] pos) (M.callB tupO ms) := de_callTy ok (c_tup ok) s_tup (gl ok hg) hm (by decide +kernel) ha (by decide) (by decide) he hpl
theorem x_int (ok : C.Ok) (hm : C.g.mg "int" = none) {ms : Env → Out (List Arg × Env)} (ha : DOs C μ (e :: es) ms) (hg : glB C.sc "int" = true := by kernel_rfl!)
    (he : ∀ j, starEach (e :: es) (C.X j).env = (false, eval e (C.X j).env) :: starEach es (C.X j).env := by intro _; rfl) (hpl : ∀ j, (backTo pos (starEach es (C.X j).env)).any (·.1) = false := by intro _; rfl) :
    DE C μ (.Call (.Name "int" p) (e :: es) [] pos) (M.callB intO ms) := de_callTy ok c_int s_int (gl ok hg) hm (by decide +kernel) ha (by decide) (by decide) he hpl
theorem x_lst (ok : C.Ok) (hm : C.g.mg "list" = none) {ms : Env → Out (List Arg × Env)} (ha : DOs C μ (e :: es) ms) (hg : glB C.sc "list" = true := by kernel_rfl!)
    (he : ∀ j, starEach (e :: es) (C.X j).env = (false, eval e (C.X j).env) :: starEach es (C.X j).env := by intro _; rfl) (hpl : ∀ j, (backTo pos (starEach es (C.X j).env)).any (·.1) = false := by intro _; rfl) :
    DN C μ (.Call (.Name "list" p) (e :: es) [] pos) (M.callB lstO ms) := dn_callTy ok (c_lst ok) s_lst (gl ok hg) hm (by decide +kernel) ha (by decide) (by decide) he hpl
theorem x_call {pm : List Md} {f : List D → Out (D × List D)} {k : Nat} (ok : C.Ok) (hc : Cal C.g k x pm .fz f) {ms : Env → Out (List Arg × Env)} (ha : DOs C μ (e :: es) ms) (hk : k ≤ C.lv := by first | exact Nat.le_of_ble_eq_true rfl | exact Nat.le_refl _ | exact Nat.le_add_right_of_le (Nat.le_of_ble_eq_true rfl)) (hg : glB C.sc x = true := by kernel_rfl!)
    (he : ∀ j, starEach (e :: es) (C.X j).env = (false, eval e (C.X j).env) :: starEach es (C.X j).env := by intro _; rfl) (hpl : ∀ j, (backTo pos (starEach es (C.X j).env)).any (·.1) = false := by intro _; rfl) (hdb : (x == ("__debug__" : Str)) = false := by decide) :
    DE C μ (.Call (.Name x p) (e :: es) [] pos) (M.call μ pm f ms) := de_call ok hc hk (gl ok hg) ha hdb he hpl
theorem x_callN {pm : List Md} {f : List D → Out (D × List D)} {k : Nat} (ok : C.Ok) (hc : Cal C.g k x pm .ow f) {ms : Env → Out (List Arg × Env)} (ha : DOs C μ (e :: es) ms) (hk : k ≤ C.lv := by first | exact Nat.le_of_ble_eq_true rfl | exact Nat.le_refl _ | exact Nat.le_add_right_of_le (Nat.le_of_ble_eq_true rfl)) (hg : glB C.sc x = true := by kernel_rfl!)
    (he : ∀ j, starEach (e :: es) (C.X j).env = (false, eval e (C.X j).env) :: starEach es (C.X j).env := by intro _; rfl) (hpl : ∀ j, (backTo pos (starEach es (C.X j).env)).any (·.1) = false := by intro _; rfl) (hdb : (x == ("__debug__" : Str)) = false := by decide) :
    DN C μ (.Call (.Name x p) (e :: es) [] pos) (M.call μ pm f ms) := dn_call ok hc hk (gl ok hg) ha hdb he hpl
/-- comprehensions -/
theorem x_lc (ok : C.Ok) {tg it elt : Expr} {ifs : List Expr} {scope : Scope} (vs as : List (Option Str)) (own : List (Str × Nat)) {mi : Env → Out (List D × Env)} {f : D → Env → Out Env} {mc : Env → Out (Bool × Env)} {me : Env → Out (D × Env)} {tl : List Nat}
    (hi : DI C μ tg it mi) (k : (cctx C scope vs as).Ok → DG (cctx C scope vs as) μ tg μ f tl ∧ DTs (cctx C scope vs as) μ ifs mc ∧ DE (cctx C scope vs as) μ elt me)
    (h1 : visB (rl scope C.sc) vs C.N = true := by kernel_rfl!) (h2 : asgB scope (rl scope C.sc) as C.N = true := by kernel_rfl!) (h3 : blkC C.N C.sc scope own = true := by kernel_rfl!)
    (ho : ∀ i ∈ own.map (·.2), md μ i = .fz := by decide) (htl : ∀ i ∈ tl, i ∈ own.map (·.2) := by decide)
    (hs : ∀ j x, foldedSetIterable it (C.X j).env x = pure x := by intro _ _; rfl) : DN C μ (.ListComp elt [⟨tg, it, ifs, 0⟩] scope pos) (M.lc mi f mc me (own.map (·.2))) :=
  have hb := blkV_by ok h1 h2
  have ⟨g, t, e⟩ := k (cctx_ok ok hb)
  dn_lc ok hb (fun j => by rw [ok.hN j, ok.hsc j]; exact blkOk_by h3) ho htl hi g t e hs
def swB (sc scope : Scope) (y : Str) (py pos : Pos) : Bool := (match sc.kind with | .function => true | _ => false) && (sc.names.lookup y == some .local) && (py.line == pos.line) && !(scope.names.any fun (n, k) => n == y && (k == .local || k == .cell))
theorem sw_by (ok : C.Ok) {y : Str} {py : Pos} {elt : Expr} {gs : List Comprehension} {scope : Scope} (h : swB C.sc scope y py pos = true) (j : ι) {l : Nat} : swapsWith (.ListComp elt gs scope pos) (some (.Name y py)) l (C.X j).env = pure true ∧ (C.X j).env.scope.names.lookup y = some .local := by
  unfold swB at h
  rw [← ok.hsc j] at h
  simp only [Bool.and_eq_true, Bool.not_eq_true', beq_iff_eq] at h
  obtain ⟨⟨⟨h1, h2⟩, h3⟩, h4⟩ := h
  refine ⟨sw_true ?_ h2 (by simpa using h3) h4, h2⟩
  split at h1
  · assumption
  · cases h1
/-- name = [..] on one line -/
theorem x_asgLc (ok : C.Ok) {y : Str} {py spos : Pos} (i : Nat) (hx : C.as[i]? = some (some y)) (hi : C.io.contains i = false) {tg it elt : Expr} {ifs : List Expr} {scope : Scope} (vs as : List (Option Str)) (own : List (Str × Nat)) {mi : Env → Out (List D × Env)} {f : D → Env → Out Env} {mc : Env → Out (Bool × Env)} {me : Env → Out (D × Env)} {tl : List Nat}
    (hit : DI C μ tg it mi) (k : (cctx C scope vs as).Ok → DG (cctx C scope vs as) μ tg μ f tl ∧ DTs (cctx C scope vs as) μ ifs mc ∧ DE (cctx C scope vs as) μ elt me)
    (h1 : visB (rl scope C.sc) vs C.N = true := by kernel_rfl!) (h2 : asgB scope (rl scope C.sc) as C.N = true := by kernel_rfl!) (h3 : blkC C.N C.sc scope own = true := by kernel_rfl!) (h4 : swB C.sc scope y py pos = true := by kernel_rfl!)
    (ho : ∀ i ∈ own.map (·.2), md μ i = .fz := by decide) (htl : ∀ i ∈ tl, i ∈ own.map (·.2) := by decide)
    (hs : ∀ j x, foldedSetIterable it (C.X j).env x = pure x := by intro _ _; rfl) : DS C rm μL μ (.Assign [.Name y py] (.ListComp elt [⟨tg, it, ifs, 0⟩] scope pos) spos) (μ.set i .fz) (M.asg i (M.lc mi f mc me (own.map (·.2)))) := by
  have hb := blkV_by ok h1 h2
  obtain ⟨g, t, e⟩ := k (cctx_ok ok hb)
  obtain ⟨wi, pi, si⟩ := hit
  obtain ⟨tgr, pg, sg⟩ := g
  obtain ⟨tt, pt, st⟩ := t
  obtain ⟨te, pe, se⟩ := e
  refine ⟨tAsg (tLc wi tgr tt te (own.map fun p : Str × Nat => p.2)) (gName i), fun j => ?_, fun B F H ρ σ D hp R h => show tLc wi tgr tt te (own.map (·.2)) σ H (fun x H1 => gName i x σ H1 D.nx) from lc_read (own := own.map (·.2)) si sg st se ho htl R (Post.shared R ((SPost.of h).imp fun d ρ1 F1 H1 R1 S1 k v hv => k F1 H1 _ (R1.set (pins_ne hp hi) hv) (Le.refl _)))⟩
  obtain ⟨s1, s2⟩ := sw_by (elt := elt) (gs := [⟨tg, it, ifs, 0⟩]) ok h4 j (l := spos.line)
  exact ps_setLc (ok.calm j) (by rw [ok.hN j]; exact ok.nd) (by rw [ok.hN j]; exact (ok.asg j i y hx).1) s2 s1 (pi j) (by rw [ok.hN j, ok.hsc j]; exact blkOk_by h3) (fun s H C cl fp => pg (j, s, H, C, cl, fp)) (fun s H C cl fp => pt (j, s, H, C, cl, fp)) (fun s H C cl fp => pe (j, s, H, C, cl, fp)) (hs j)
theorem x_asgLcN (ok : C.Ok) {y : Str} {py spos : Pos} (i : Nat) (hx : C.as[i]? = some (some y)) (hi : C.io.contains i = false) {tg it elt : Expr} {ifs : List Expr} {scope : Scope} (vs as : List (Option Str)) (own : List (Str × Nat)) {mi : Env → Out (List D × Env)} {f : D → Env → Out Env} {mc : Env → Out (Bool × Env)} {me : Env → Out (D × Env)} {tl : List Nat}
    (hit : DI C μ tg it mi) (k : (cctx C scope vs as).Ok → DG (cctx C scope vs as) μ tg μ f tl ∧ DTs (cctx C scope vs as) μ ifs mc ∧ DE (cctx C scope vs as) μ elt me)
    (h1 : visB (rl scope C.sc) vs C.N = true := by kernel_rfl!) (h2 : asgB scope (rl scope C.sc) as C.N = true := by kernel_rfl!) (h3 : blkC C.N C.sc scope own = true := by kernel_rfl!) (h4 : swB C.sc scope y py pos = true := by kernel_rfl!)
    (ho : ∀ i ∈ own.map (·.2), md μ i = .fz := by decide) (htl : ∀ i ∈ tl, i ∈ own.map (·.2) := by decide)
    (hs : ∀ j x, foldedSetIterable it (C.X j).env x = pure x := by intro _ _; rfl) : DS C rm μL μ (.Assign [.Name y py] (.ListComp elt [⟨tg, it, ifs, 0⟩] scope pos) spos) (μ.set i .ow) (M.asg i (M.lc mi f mc me (own.map (·.2)))) := by
  have hb := blkV_by ok h1 h2
  obtain ⟨g, t, e⟩ := k (cctx_ok ok hb)
  obtain ⟨wi, pi, si⟩ := hit
  obtain ⟨tgr, pg, sg⟩ := g
  obtain ⟨tt, pt, st⟩ := t
  obtain ⟨te, pe, se⟩ := e
  refine ⟨tAsg (tLc wi tgr tt te (own.map fun p : Str × Nat => p.2)) (gName i), fun j => ?_, fun B F H ρ σ D hp R h => show tLc wi tgr tt te (own.map (·.2)) σ H (fun x H1 => gName i x σ H1 D.nx) from lc_read (own := own.map (·.2)) si sg st se ho htl R ((SPost.of h).imp fun d ρ1 F1 H1 R1 S1 k a o ha hn hf c => k F1 H1 _ (R1.setOw (pins_ne hp hi) ha hf (R.toBx.fresh hn).2.1 c (R.new_notOwn hn)) (Le.refl _))⟩
  obtain ⟨s1, s2⟩ := sw_by (elt := elt) (gs := [⟨tg, it, ifs, 0⟩]) ok h4 j (l := spos.line)
  exact ps_setLc (ok.calm j) (by rw [ok.hN j]; exact ok.nd) (by rw [ok.hN j]; exact (ok.asg j i y hx).1) s2 s1 (pi j) (by rw [ok.hN j, ok.hsc j]; exact blkOk_by h3) (fun s H C cl fp => pg (j, s, H, C, cl, fp)) (fun s H C cl fp => pt (j, s, H, C, cl, fp)) (fun s H C cl fp => pe (j, s, H, C, cl, fp)) (hs j)
theorem x_rg1 (ok : C.Ok) (hm : C.g.mg "range" = none) {tg : Expr} {ms : Env → Out (List D × Env)} (h : DA C μ [e] ms) (hg : glB C.sc "range" = true := by kernel_rfl!) (hs : ∀ j, starEach [e] (C.X j).env = [(false, eval e (C.X j).env)] := by intro _; rfl) :
    DI C μ tg (.Call (.Name "range" p) [e] [] pos) (M.map rng1 ms) := di_range1 ok (gl ok hg) hm h hs
theorem x_rg2 (ok : C.Ok) (hm : C.g.mg "range" = none) {tg : Expr} {ms : Env → Out (List D × Env)} (h : DA C μ [e, e2] ms) (hg : glB C.sc "range" = true := by kernel_rfl!)
    (hs : ∀ j, starEach [e, e2] (C.X j).env = [(false, eval e (C.X j).env), (false, eval e2 (C.X j).env)] := by intro _; rfl) (hs2 : ∀ j, starEach [e2] (C.X j).env = [(false, eval e2 (C.X j).env)] := by intro _; rfl) :
    DI C μ tg (.Call (.Name "range" p) [e, e2] [] pos) (M.map rng2 ms) := di_range2 ok (gl ok hg) hm h hs hs2
theorem x_tupRg (ok : C.Ok) (hm : C.g.mg "tuple" = none) (hm2 : C.g.mg "range" = none) {m : Env → Out (D × Env)} (h : DE C μ e m) {q1 q2 : Pos} (hg : glB C.sc "tuple" = true := by kernel_rfl!) (hg2 : glB C.sc "range" = true := by kernel_rfl!)
    (na : ∀ j, starEach [.Call (.Name "range" q1) [e] [] q2] (C.X j).env = (false, eval (.Call (.Name "range" q1) [e] [] q2) (C.X j).env) :: starEach [] (C.X j).env := by intro _; rfl)
    (nb : ∀ j, starEach [e] (C.X j).env = (false, eval e (C.X j).env) :: starEach [] (C.X j).env := by intro _; rfl) :
    DE C μ (.Call (.Name "tuple" p) [.Call (.Name "range" q1) [e] [] q2] [] pos) (M.rgT m) := de_tupRg ok (gl ok hg) hm (gl ok hg2) hm2 h na nb
theorem x_lstRg (ok : C.Ok) (hm : C.g.mg "list" = none) (hm2 : C.g.mg "range" = none) {m : Env → Out (D × Env)} (h : DE C μ e m) {q1 q2 : Pos} (hg : glB C.sc "list" = true := by kernel_rfl!) (hg2 : glB C.sc "range" = true := by kernel_rfl!)
    (na : ∀ j, starEach [.Call (.Name "range" q1) [e] [] q2] (C.X j).env = (false, eval (.Call (.Name "range" q1) [e] [] q2) (C.X j).env) :: starEach [] (C.X j).env := by intro _; rfl)
    (nb : ∀ j, starEach [e] (C.X j).env = (false, eval e (C.X j).env) :: starEach [] (C.X j).env := by intro _; rfl) :
    DN C μ (.Call (.Name "list" p) [.Call (.Name "range" q1) [e] [] q2] [] pos) (M.rgL m) := dn_lstRg ok (gl ok hg) hm (gl ok hg2) hm2 h na nb
theorem x_en (ok : C.Ok) (hb : C.g.mg "enumerate" = none) (i : Nat) {elts : List Expr} {kk : Nat} {tpos : Pos} (hx : C.vs[i]? = some (some x)) (hm : md μ i ≠ .ow) (hg : glB C.sc "enumerate" = true := by kernel_rfl!)
    (hs : ∀ j, starEach [.Name x p2] (C.X j).env = [(false, eval (.Name x p2) (C.X j).env)] := by intro _; rfl) : DI C μ (.Tuple elts kk tpos) (.Call (.Name "enumerate" p) [.Name x p2] [] pos) (M.ien i) := di_en ok i hx hm (gl ok hg) hb hs
theorem x_lenSet (ok : C.Ok) (hm : C.g.mg "len" = none) (hm2 : C.g.mg "set" = none) {oa : Env → Out (Arg × Env)} (ha : DO C μ e oa) (hg : glB C.sc "len" = true := by kernel_rfl!) (hg2 : glB C.sc "set" = true := by kernel_rfl!)
    (na : ∀ j, starEach [e] (C.X j).env = (false, eval e (C.X j).env) :: starEach [] (C.X j).env := by intro _; rfl) : DE C μ (.Call (.Name "len" p) [.Call (.Name "set" p2) [e] [] q] [] pos) (M.op1 lenSetO oa) := de_lenSet ok (gl ok hg) hm (gl ok hg2) hm2 ha na
theorem x_is (ok : C.Ok) (hm : C.g.mg "isinstance" = none) (T : Ty) {oa : Env → Out (Arg × Env)} {tn : Str} (hm2 : C.g.mg tn = none) (ha : DO C μ e oa) (hb2 : bootBuiltins tn = some (.type T.name) := by decide +kernel) (hg : glB C.sc "isinstance" = true := by kernel_rfl!) (hg2 : glB C.sc tn = true := by kernel_rfl!)
    (hn : tn ≠ "__name__" := by decide) (hd : (tn == ("__debug__" : Str)) = false := by decide)
    (h1 : ∀ j, starEach [e, .Name tn p2] (C.X j).env = (false, eval e (C.X j).env) :: starEach [.Name tn p2] (C.X j).env := by intro _; rfl) (h2 : ∀ j, starEach [.Name tn p2] (C.X j).env = (false, eval (.Name tn p2) (C.X j).env) :: starEach [] (C.X j).env := by intro _; rfl)
    (hpl : ∀ j, (backTo pos (starEach [.Name tn p2] (C.X j).env)).any (·.1) = false := by intro _; rfl) : DE C μ (.Call (.Name "isinstance" p) [e, .Name tn p2] [] pos) (M.is T oa) := de_is ok T (gl ok hg) hm (gl ok hg2) hm2 hb2 ha hn hd h1 h2 hpl
theorem x_is2 (ok : C.Ok) (hm : C.g.mg "isinstance" = none) (T U : Ty) {oa : Env → Out (Arg × Env)} {tn un : Str} (hm2 : C.g.mg tn = none) (hm3 : C.g.mg un = none) (ha : DO C μ e oa) {kk : Nat} {q1 q2 q3 : Pos}
    (hb2 : bootBuiltins tn = some (.type T.name) := by decide +kernel) (hb3 : bootBuiltins un = some (.type U.name) := by decide +kernel) (hg : glB C.sc "isinstance" = true := by kernel_rfl!) (hg2 : glB C.sc tn = true := by kernel_rfl!) (hg3 : glB C.sc un = true := by kernel_rfl!)
    (hn : tn ≠ "__name__" := by decide) (hd : (tn == ("__debug__" : Str)) = false := by decide) (hn' : un ≠ "__name__" := by decide) (hd' : (un == ("__debug__" : Str)) = false := by decide)
    (h1 : ∀ j, starEach [e, .Tuple [.Name tn q1, .Name un q2] kk q3] (C.X j).env = (false, eval e (C.X j).env) :: starEach [.Tuple [.Name tn q1, .Name un q2] kk q3] (C.X j).env := by intro _; rfl)
    (h2 : ∀ j, starEach [.Tuple [.Name tn q1, .Name un q2] kk q3] (C.X j).env = (false, eval (.Tuple [.Name tn q1, .Name un q2] kk q3) (C.X j).env) :: starEach [] (C.X j).env := by intro _; rfl)
    (h3 : ∀ j, starEach [.Name tn q1, .Name un q2] (C.X j).env = (false, eval (.Name tn q1) (C.X j).env) :: starEach [.Name un q2] (C.X j).env := by intro _; rfl) (h4 : ∀ j, starEach [.Name un q2] (C.X j).env = (false, eval (.Name un q2) (C.X j).env) :: starEach [] (C.X j).env := by intro _; rfl)
    (hpl : ∀ j, (backTo pos (starEach [.Tuple [.Name tn q1, .Name un q2] kk q3] (C.X j).env)).any (·.1) = false := by intro _; rfl) : DE C μ (.Call (.Name "isinstance" p) [e, .Tuple [.Name tn q1, .Name un q2] kk q3] [] pos) (M.is2 T U oa) :=
  de_is2 ok T U (gl ok hg) hm (gl ok hg2) hm2 hb2 (gl ok hg3) hm3 hb3 ha hn hd hn' hd' h1 h2 h3 h4 hpl
theorem x_idx (ok : C.Ok) {oa : Env → Out (Arg × Env)} {ms : Env → Out (List Arg × Env)} {apos cpos : Pos} {o : Expr} (ho : DO C μ o oa) (ha : DOs C μ (e :: es) ms)
    (hbase : ∀ j, attributeBase o "index" (C.X j).env (eval o (C.X j).env) = eval o (C.X j).env := by intro _; rfl)
    (hfew : ∀ j, ((backTo cpos (starEach (e :: es) (C.X j).env)).all (fun x => !x.1) && (backToKw cpos (keywordEach [] (C.X j).env)).all (fun x => x.1.isSome)
      && decide ((e :: es).length + ([] : List Keyword).length + (if ([] : List Keyword).isEmpty then 0 else 1) < 30)) = true := by intro _; rfl)
    (hline : (apos.endLine == cpos.line) = true := by rfl) (hst : ∀ j, starEach (e :: es) (C.X j).env = (false, eval e (C.X j).env) :: starEach es (C.X j).env := by intro _; rfl) (hpl : ∀ j, (backTo cpos (starEach es (C.X j).env)).any (·.1) = false := by intro _; rfl) :
    DE C μ (.Call (.Attribute o "index" apos) (e :: es) [] cpos) (M.meth [0, 1] idxO oa ms) := de_meth ok (by decide) (m_idx ok) s_idx ho ha hbase hfew hline hst hpl
/-- x.append(e), x.pop(i), x.insert(i, e) -/
theorem x_app (ok : C.Ok) (i : Nat) (hx : C.vs[i]? = some (some x)) (hm : md μ i = .ow) {ms : Env → Out (List D × Env)} {apos cpos : Pos} (ha : DA C μ (e :: es) ms)
    (hbase : ∀ j, attributeBase (.Name x p) "append" (C.X j).env (eval (.Name x p) (C.X j).env) = eval (.Name x p) (C.X j).env := by intro _; rfl)
    (hfew : ∀ j, ((backTo cpos (starEach (e :: es) (C.X j).env)).all (fun x => !x.1) && (backToKw cpos (keywordEach [] (C.X j).env)).all (fun x => x.1.isSome)
      && decide ((e :: es).length + ([] : List Keyword).length + (if ([] : List Keyword).isEmpty then 0 else 1) < 30)) = true := by intro _; rfl)
    (hline : (apos.endLine == cpos.line) = true := by rfl) (hst : ∀ j, starEach (e :: es) (C.X j).env = (false, eval e (C.X j).env) :: starEach es (C.X j).env := by intro _; rfl) (hpl : ∀ j, (backTo cpos (starEach es (C.X j).env)).any (·.1) = false := by intro _; rfl) :
    DE C μ (.Call (.Attribute (.Name x p) "append" apos) (e :: es) [] cpos) (M.met i appO ms) := de_met ok i hx hm PySem.F.plainAttrs_list PySem.F.slot_list_append PySem.F.type_list_append (fun _ => mt_append) m_app ha hbase hfew hline hst hpl
theorem x_pop (ok : C.Ok) (i : Nat) (hx : C.vs[i]? = some (some x)) (hm : md μ i = .ow) {ms : Env → Out (List D × Env)} {apos cpos : Pos} (ha : DA C μ (e :: es) ms)
    (hbase : ∀ j, attributeBase (.Name x p) "pop" (C.X j).env (eval (.Name x p) (C.X j).env) = eval (.Name x p) (C.X j).env := by intro _; rfl)
    (hfew : ∀ j, ((backTo cpos (starEach (e :: es) (C.X j).env)).all (fun x => !x.1) && (backToKw cpos (keywordEach [] (C.X j).env)).all (fun x => x.1.isSome)
      && decide ((e :: es).length + ([] : List Keyword).length + (if ([] : List Keyword).isEmpty then 0 else 1) < 30)) = true := by intro _; rfl)
    (hline : (apos.endLine == cpos.line) = true := by rfl) (hst : ∀ j, starEach (e :: es) (C.X j).env = (false, eval e (C.X j).env) :: starEach es (C.X j).env := by intro _; rfl) (hpl : ∀ j, (backTo cpos (starEach es (C.X j).env)).any (·.1) = false := by intro _; rfl) :
    DE C μ (.Call (.Attribute (.Name x p) "pop" apos) (e :: es) [] cpos) (M.met i popO ms) := de_met ok i hx hm PySem.F.plainAttrs_list PySem.F.slot_list_pop PySem.F.type_list_pop (fun _ => mt_popAt) m_pop ha hbase hfew hline hst hpl
theorem x_ins (ok : C.Ok) (i : Nat) (hx : C.vs[i]? = some (some x)) (hm : md μ i = .ow) {ms : Env → Out (List D × Env)} {apos cpos : Pos} (ha : DA C μ (e :: es) ms)
    (hbase : ∀ j, attributeBase (.Name x p) "insert" (C.X j).env (eval (.Name x p) (C.X j).env) = eval (.Name x p) (C.X j).env := by intro _; rfl)
    (hfew : ∀ j, ((backTo cpos (starEach (e :: es) (C.X j).env)).all (fun x => !x.1) && (backToKw cpos (keywordEach [] (C.X j).env)).all (fun x => x.1.isSome)
      && decide ((e :: es).length + ([] : List Keyword).length + (if ([] : List Keyword).isEmpty then 0 else 1) < 30)) = true := by intro _; rfl)
    (hline : (apos.endLine == cpos.line) = true := by rfl) (hst : ∀ j, starEach (e :: es) (C.X j).env = (false, eval e (C.X j).env) :: starEach es (C.X j).env := by intro _; rfl) (hpl : ∀ j, (backTo cpos (starEach es (C.X j).env)).any (·.1) = false := by intro _; rfl) :
    DE C μ (.Call (.Attribute (.Name x p) "insert" apos) (e :: es) [] cpos) (M.met i insO ms) := de_met ok i hx hm PySem.F.plainAttrs_list PySem.F.slot_list_insert PySem.F.type_list_insert (fun _ => mt_ins) m_ins ha hbase hfew hline hst hpl
theorem x_glob (ok : C.Ok) (n : Int) (hm : ∃ t, C.g.mg x = some (.int n t)) (hg : glB C.sc x = true := by kernel_rfl!) (hdb : (x == ("__debug__" : Str)) = false := by decide) : DE C μ (.Name x pos) (M.cst (.int n)) :=
  let ⟨t, hm⟩ := hm; de_glob ok (gl ok hg) hm (v := .int n) ⟨t, rfl⟩ (fun F => .int n) hdb
end

def addI : D → D → Out D
  | .int a, .int b => .ok (.int (a + b))
  | _, _ => .bad
theorem addI_eq (x y : D) : addI x y = match x, y with
    | .int a, .int b => .ok (.int (a + b))
    | _, _ => .bad := by cases x <;> cases y <;> rfl
theorem subO_eq (x y : D) : subO x y = match x, y with
    | .int a, .int b => .ok (.int (a - b))
    | _, _ => .bad := by cases x <;> cases y <;> rfl
/-! ### defs -/
/-- what the head says of a def -/
structure Dfn (g : G) (x : Str) (st : Stmt) (ps : List Str) : Prop where
  ex : ∃ (a : Addr) (fd : FuncData), Fun g.K x x st a fd ∧ g.mg x = some (.ref a) ∧ PySem.W.keepIn g.K (.ref a) = true ∧ Binds g.K fd ps []
def scB (N ps : List Str) (sc : Scope) : Bool := (match sc.kind with | .function => true | _ => false) && !sc.isCoroutine && !sc.isGenerator && decide N.Nodup && decide (N.take ps.length = ps) &&
  (ps.all fun x => sc.names.lookup x == some .local || sc.names.lookup x == some .cell) && (sc.names.all fun y => !(y.2 == .free))
theorem fnScope_by {N ps : List Str} {sc : Scope} (h : scB N ps sc = true) : FnScope N ps sc := by
  unfold scB at h
  simp only [Bool.and_eq_true, Bool.not_eq_true', decide_eq_true_eq, List.all_eq_true, Bool.or_eq_true, beq_iff_eq] at h
  obtain ⟨⟨⟨⟨⟨⟨h1, h2⟩, h3⟩, h4⟩, h5⟩, h6⟩, h7⟩ := h
  refine ⟨?_, h2, h3, h4, h5, h6, fun y hy e => ?_⟩
  · split at h1
    · assumption
    · cases h1
  · have := h7 y hy
    rw [e] at this
    simp at this
theorem cal_of {g : G} {x : Str} {st : Stmt} {pm : List Md} {rm : Md} {N ps : List Str} {vz : List (Option Str)} {k : Nat} {m : Env → SOut} {μ' : List Md} (Dx : Dfn g x st ps) (n : Nat)
    (hb : ∀ a cdv A outer s H E, (fctx g N vz x st a k (ioOf pm) cdv A outer s H E).Ok → DSs (fctx g N vz x st a k (ioOf pm) cdv A outer s H E) rm [] (pm ++ List.replicate (N.length - pm.length) .fz) (defBody st) μ' m)
    (hs : scB N ps (defScope st) = true := by decide +kernel) (hv : visC vz N (defScope st) = true := by decide +kernel) (hl : ps.length = pm.length := by rfl) (hl2 : ps.length ≤ N.length := by decide)
    (hμ : ioOk (ioOf pm) μ' = true := by rfl) (hn : N.length = n := by rfl) : Cal g (k + 1) x pm rm (M.fn pm rm n m) := by
  subst hn
  obtain ⟨a, fd, F, hm, hk, hbd⟩ := Dx.ex
  exact ⟨a, fd, ps, fn_ok F (fnScope_by hs) hv hl hl2 (hb a) hμ, hm, hk, hbd⟩
end PyD

set_option Elab.async false
set_option linter.all false
set_option maxRecDepth 100000
/-! The law's promise, and what the head says of the defs. -/
namespace PyD
open PySem L2 L2X PyProof.Rows
theorem fnok_of {g : G} {x : Str} {st : Stmt} {pm : List Md} {rm : Md} {N ps : List Str} {vz : List (Option Str)} {k : Nat} {m : Env → SOut} {μ' : List Md} {a : Addr} {fd : FuncData} (F : Fun g.K x x st a fd) (n : Nat)
    (hb : ∀ cdv A outer s H E, (fctx g N vz x st a k (ioOf pm) cdv A outer s H E).Ok → DSs (fctx g N vz x st a k (ioOf pm) cdv A outer s H E) rm [] (pm ++ List.replicate (N.length - pm.length) .fz) (defBody st) μ' m)
    (hs : scB N ps (defScope st) = true := by decide +kernel) (hv : visC vz N (defScope st) = true := by decide +kernel) (hl : ps.length = pm.length := by rfl) (hl2 : ps.length ≤ N.length := by decide)
    (hμ : ioOk (ioOf pm) μ' = true := by rfl) (hn : N.length = n := by rfl) : FnOk g.P g.w g.K g.mg g.base (L2.CX g.P g.w) (k + 1) a fd ps (spOf g pm rm (M.fn pm rm n m)) := by
  subst hn
  exact fn_ok F (fnScope_by hs) hv hl hl2 hb hμ
def spLaw (K : PySem.W.Frag) : Sp := fun vs H Q _ => ∃ (a : Addr) (ns : List Int), vs = [.ref a] ∧ SqL K H a (ns.map V.int) ∧ ns.length ≤ 63 ∧ ∀ H', Q (.bl true) H'
theorem law_sp {g : G} {f : List D → Out (D × List D)} (hf : ∀ ns : List Int, ns.length ≤ 63 → f [.scr ns] = .ok (.bl true, [])) (vs : List V) (H : Hp) (Q : VK) (E : XK) (h : spLaw g.K vs H Q E) : spOf g [.an] .fz f vs H Q E := by
  obtain ⟨a, ns, rfl, hS, hl, k⟩ := h
  refine ⟨H, [.scr ns], ⟨H, H, [], []⟩, rfl, rfl, ⟨(fun p hp => nomatch hp), (fun a ha => nomatch ha)⟩, (fun i hi => nomatch (show i ∈ ([] : List Nat) from hi)), ?_, ?_⟩
  · refine ⟨⟨Le.refl _, Le.refl _, fun _ _ e _ => e, fun _ _ _ _ => rfl, (fun _ ha => nomatch ha)⟩, rfl, rfl, fun i d e => ?_, fun i j b n hi => ?_, (fun p hp => nomatch hp), fun i hi => ?_⟩
    · cases i with
      | zero =>
        have e : some (D.scr ns) = some d := Option.some.inj e
        cases e
        exact ⟨.ref a, rfl, .inl (.scr hS)⟩
      | succ i => cases e
    · cases i with
      | zero => cases hi
      | succ i => cases hi
    · cases i with
      | zero => cases hi
      | succ i => cases hi
  · rw [hf ns hl]
    intro v F' H' R hr
    cases (show Is g F' v (.bl true) from hr)
    exact k H'
theorem walk_law {l : PySem.W.OpenLaw} {q : Program} {loose : List Str} {XP : (Str → Option Value) → Heap → Prop} {YP : World → Heap → Prop} {d : DefRec} {K : Params → PySem.W.Frag} (k : Nat) (hn : l.most = some 63) (hdf : d.params.defaults = []) (hr : Room k callerA)
    (hY : ∀ (w : World) (h : Heap), YP w h → (K w.params).In h)
    (F : ∀ (w : World) (mg : Str → Option Value) (fa : Addr) (h : Heap), (K w.params).In h → h.Ns mainGlobals mg → mg d.name = some (.ref fa) →
      ∃ fd : FuncData, (∀ (s : Shared) (u : Value), BindsTo s fd ⟨[u], []⟩ [("script", u)]) ∧ ∀ base : Heap, (K w.params).In base → base.Ns mainGlobals mg → FnOk l.prog w (K w.params) mg base (L2.CX l.prog w) k fa fd ["script"] (spLaw (K w.params))) :
    PySem.W.WalkO q loose XP YP l.row.toRowW d [] (fun f vs => PySem.call f vs) :=
  L2.walk_of (n := 63) (k := k) (x := "script") (CX := fun w => L2.CX l.prog w) (sp := fun w => spLaw (K w.params)) hn (by decide) hdf hr hY F (fun _ _ a ns hl _ hS => ⟨a, ns, rfl, hS, hl, fun _ => rfl⟩) fun _ _ _ _ _ ⟨_, _, _, _, _, _, _, _, _, _, _, _, z⟩ => z
theorem dfn_mk {g : G} {x : Str} {st : Stmt} {ps : List Str} {a : Addr} {fd : FuncData} (F : Fun g.K x x st a fd) (hm : g.mg x = some (.ref a))
    (hb : ∀ (kV doc pm : Value) (an : Option Addr) (cdv ct : Value) (us : List Value), us.length = ps.length → bindArgs (PySem.W.fnOf x x (defArgs st) (defBody st) (defScope st) .none kV doc pm an cdv ct) ⟨us, []⟩ = pure (ps.zip us)) : Dfn g x st ps :=
  ⟨a, fd, F, hm, F.kp, F.binds hb⟩
end PyD

set_option Elab.async false
set_option linter.all false
set_option maxRecDepth 100000
set_option maxHeartbeats 4000000
/-! Sets: made of a list or a tuple, their lengths, sorted. -/
namespace L2X
open PySem PySem.Spec PyProof.Rows L2
section
variable {P : Program} {w : World} {A : Around} {E : Value → Shared → Prop} {s : Shared}
/-- a new set -/
abbrev s0 (w : World) : Obj := { cls := .type "set", dict := none, data := .set #[] 0 (.fresh 0 0 (!w.params.followText "set-order")) }
/-- set(xs), xs a list of whole numbers -/
theorem call_set_lstI {l : Addr} {items : Array Value} (ns : List Int) {Q : Value → Shared → Prop} (hh : A.handled = none) (hl : s.heap.IsList l items) (hit : IntsAre items.toList ns) (hb : ns.length + 1 < scanBound)
    (h : ∀ (h' : Heap) (tk c : Nat), SetR w h' s.heap.objs.size (fun j => decide (j ∈ ns)) c → c ≤ ns.length → (∀ b o, s.heap.get? b = some o → h'.get? b = some o) → Q (.ref s.heap.objs.size) { s with heap := h', toks := tk }) :
    wpAny (model P w) A (call (.type "set") [.ref l]) Q E s := by
  have eSz : items.size = ns.length := by
    have q := IntsAre.length hit
    rw [Array.length_toList] at q
    exact q
  obtain ⟨c, tl, e0⟩ := F.called_set.mro
  have e1 := F.called_set.made
  have e2 := F.called_set.sub
  refine wpAny_call (codeAny_of_tree ?_)
  show wpAny _ _ (callAny (.type "set") _) _ _ _
  refine wpAny_pure ⟨Code.quiet_builtin _ (by decide +kernel), codeAny_builtin F.entry_type_call ?_⟩
  rw [Around.under_plain (weight_type_call_type "set" [.ref l] []) rfl]
  have h1 := F.called_set.notType
  have h2 := F.called_set.canCreate
  have e5 := F.typeCall_set_1 (.ref l)
  repeat (any_goals (first | assumption | wp_step))
  refine codeAny_mono (code_set_led1 (.ref l) (E := E) (Q₁ := fun obj s₁ => obj = .ref s.heap.objs.size ∧ s₁ = { s with heap := s.heap.push (s0 w) }) ⟨rfl, rfl⟩) fun r s₁ hr => ?_
  cases r with
  | error e => exact hr
  | ok fl =>
    cases fl with
    | ret obj =>
      obtain ⟨rfl, rfl⟩ := hr
      have oS : (s.heap.push (s0 w)).get? s.heap.objs.size = some (s0 w) := Heap.get?_push_size _ rfl
      have oT : Shared.TypeIs { s with heap := s.heap.push (s0 w) } (.ref s.heap.objs.size) "set" := ⟨_, oS, rfl⟩
      have e6 := F.called_set.init.lookup
      have e7 := F.called_set.init.bind (.ref s.heap.objs.size)
      repeat (any_goals (first | assumption | wp_step))
      refine codeAny_mono (codeAny_call_builtin (R := wants (fun r s₂ => r = .none ∧ ∃ h' tk c, s₂ = { s with heap := h', toks := tk } ∧ SetR w h' s.heap.objs.size (fun j => decide (j ∈ ns)) c ∧ c ≤ ns.length ∧
          (∀ b o, s.heap.get? b = some o → h'.get? b = some o)) E) F.called_set.init.plain F.entry_set_init (check_set_init_1 oT ?_)) fun r₂ s₂ hr₂ => ?_
      · obtain ⟨ol, eOl, eCl, nl, eDl⟩ := hl
        obtain ⟨ocls, odict, odata, oslots⟩ := ol
        simp only at eCl eDl
        subst eCl; subst eDl
        have eOl' : (s.heap.push (s0 w)).get? l = some { cls := .type "list", dict := odict, data := .seq items nl, slots := oslots } := Heap.get?_push_of_some _ eOl
        have e8 := F.sub_list_set
        have e9 := F.sub_list_frozenset
        have hne : (Value.type "list" == Value.type "dict") = false := by decide
        have oL : (s.heap.push (s0 w)).IsList l items := ⟨_, eOl', rfl, nl, rfl⟩
        unfold Builtin.«set.__init__» noKeywords Builtin.Frozenset.updateFrom
        generalize hPI : pyIter = PI
        wp_walk
        subst hPI
        refine wpAny_pyIter_list oL ?_
        refine wpAny_bind (wpAny_runValue ?_)
        have lS : l < s.heap.objs.size := Heap.lt_size eOl
        have q3 : A.in1.in1.in1.handled = none := by simp [hh]
        have qz : (s.heap.push (s0 w)).objs.size = s.heap.objs.size + 1 := Heap.size_push ..
        have qI : l ≠ (s.heap.push (s0 w)).objs.size := by
          rw [Heap.size_push]; exact Nat.ne_of_lt (Nat.lt_succ_of_lt lS)
        have qF : s.heap.objs.size ∉ [(s.heap.push (s0 w)).objs.size, l] := by
          rw [Heap.size_push]; simp only [List.mem_cons, List.mem_singleton, List.not_mem_nil, or_false, not_or]
          exact ⟨Nat.ne_of_lt (Nat.lt_succ_self _), Nat.ne_of_gt lS⟩
        have qV : ∀ (i : Nat) (v : Value), items[i]? = some v → ∃ k t, ns[i]? = some k ∧ v = .int k t := fun i v hv => by
          have hi : i < ns.length := by rw [← eSz]; exact (Array.getElem?_eq_some_iff.mp hv).1
          obtain ⟨t, e⟩ := PyProof.Rows.IntsAre.int_at hit i v (by rw [Array.getElem?_toList]; exact hv)
          refine ⟨ns[i], t, List.getElem?_eq_getElem hi, ?_⟩
          rw [e, List.getD_eq_getElem?_getD, List.getElem?_eq_getElem hi] <;> rfl
        refine set_update_ints ((Walks.list q3 _ l qI items).toS) s.heap.objs.size
          qF ns eSz hb qV (items.size - 0) 0 _ (by omega) (Nat.zero_le _)
          ⟨⟨_, Heap.get?_push_size _ rfl, rfl, rfl⟩, (oL.push _)⟩ ?hS0 ?hR
        case hS0 =>
          have qG : ((s.heap.push (s0 w)).push { cls := .type "list_iterator", data := .fields #[.ref l, .int 0 0] }).get? s.heap.objs.size
              = some (s0 w) := Heap.get?_push_of_some _ oS
          exact ⟨0, Nat.le_refl 0, setR_new_at qG⟩
        case hR =>
          intro s' c' mv cc' oS'
          obtain ⟨h', g2, d', tk', os'⟩ := s'
          have eg : g2 = s.gens := mv.gens
          have ed : d' = s.drawn := mv.drawn
          have eo : os' = s.os := mv.os
          subst eg; subst ed; subst eo
          show wpAny _ _ _ _ _ _
          refine wpAny_pure ?_
          show wpAny _ _ (ret Value.none) _ _ _
          rw [eSz] at cc'
          refine wpAny_pure ⟨rfl, h', tk', c', rfl, oS', cc', fun b o e => ?_⟩
          have b0 : b < s.heap.objs.size := Heap.lt_size e
          have b1 : b ≠ s.heap.objs.size := Nat.ne_of_lt b0
          have b2 : b ≠ (s.heap.push (s0 w)).objs.size := by
            rw [Heap.size_push]; exact Nat.ne_of_lt (Nat.lt_succ_of_lt b0)
          exact mv.heap b o (by simp only [List.mem_cons, List.mem_singleton, List.not_mem_nil, or_false, not_or]; exact ⟨b1, b2⟩) (Heap.get?_push_of_some _ (Heap.get?_push_of_some _ e))
      · cases r₂ with
        | error e => exact hr₂
        | ok fl₂ =>
          cases fl₂ with
          | ret r =>
            obtain ⟨rfl, h', tk, c', rfl, oS', cc', hk'⟩ := hr₂
            repeat (any_goals (first | assumption | wp_step))
            exact h _ _ _ oS' cc' hk'
          | _ => exact hr₂.elim
    | _ => exact hr.elim
end
end L2X

set_option Elab.async false
set_option linter.all false
set_option maxRecDepth 100000
/-! Sets, by data. -/
namespace PyD
open PySem L2 L2X PyProof.Rows
/-- each once, by the first places -/
def ddT : List (List Int) → List (List Int)
  | [] => []
  | n :: ns => n :: (ddT ns).filter (· ≠ n)
theorem mem_ddT : ∀ {ns : List (List Int)} {k : List Int}, k ∈ ddT ns ↔ k ∈ ns
  | [], k => Iff.rfl
  | n :: ns, k => by
    unfold ddT
    rw [List.mem_cons, List.mem_cons, List.mem_filter, mem_ddT]
    simp only [decide_eq_true_eq]
    by_cases h : k = n
    · simp [h]
    · simp [h]
theorem ddT_nodup : ∀ ns : List (List Int), (ddT ns).Nodup
  | [] => List.nodup_nil
  | n :: ns => by
    unfold ddT
    refine List.nodup_cons.mpr ⟨fun h => ?_, List.Nodup.sublist List.filter_sublist (ddT_nodup ns)⟩
    simp [List.mem_filter] at h
theorem perm_of_mem {α : Type} [DecidableEq α] {l m : List α} (hl : l.Nodup) (hm : m.Nodup) (h : ∀ x, x ∈ l ↔ x ∈ m) : l.Perm m := by
  rw [List.perm_iff_count]
  intro a
  by_cases q : a ∈ l
  · rw [hl.count, hm.count, if_pos q, if_pos ((h a).mp q)]
  · rw [hl.count, hm.count, if_neg q, if_neg (fun z => q ((h a).mpr z))]
def setTO : D → Option (List (List Int)) → Out D
  | .lst _, some nss => if nss.length < 64 then .ok (.set (.tups (ddT nss))) else .bad
  | _, _ => .bad
def setO : List D → Out D
  | [d] => (items d).bind fun ds => match ints? ds with
    | some ns => if ns.length ≤ 1000 then .ok (.set (.ints (dd ns))) else .bad
    | none => setTO d (tups? ds)
  | _ => .bad
section
variable {ι : Type} {C : Ctx ι} {μ : List Md} {e a b c : Expr} {es : List Expr} {pos p p2 p3 q : Pos} {x : Str} {g : G} {B : Base} {F H : Hp} {ρ : Env} {σ : L2.St}
def rSetI (g : G) : List V → Hp → VK → Prop := fun xs H Q => ∃ (l : Addr) (ns : List Int), xs = [.ref l] ∧ (SqL g.K H l (ns.map V.int) ∨ SqT g.K H l (ns.map V.int)) ∧ ns.length ≤ 1000 ∧
  ∀ a S n, H a = none → (∀ k, S k = true ↔ k ∈ ns) → n = (dd ns).length → Q (.ref a) (upd H a (SetO g.w a S n))
theorem setR_len {w : World} {h : Heap} {a : Addr} {ns : List Int} {n : Nat} (R : SetR w h a (fun j => decide (j ∈ ns)) n) : n = (dd ns).length := by
  obtain ⟨o, es, ep, t, ho, hex, hd, _, hnd, hmem, _, hf, hn, _⟩ := R
  rw [← hn, ← Array.length_toList, ← List.length_map (f := L2.keyOf)]
  exact nodup_len hnd (dd_nodup ns) fun k => by rw [← hmem k, decide_eq_true_eq, mem_dd]
theorem c_setI (ok : C.Ok) (j : ι) : CallR (C.X j) (.type "set") (rSetI C.g) := by
  intro pins s σ H xs us Q I r h
  obtain ⟨l, ns, rfl, hq, hl, q⟩ := h
  rw [Vals.ref1 r]
  have hn : H s.heap.objs.size = none := I.hok.fresh (Nat.le_refl _)
  rcases hq with hq | hq
  · rw [← ok.hK j] at hq
    obtain ⟨its, rv, pl, hz⟩ := I.list hq
    refine call_set_lstI ns (I.ok.hd (ok.calm j)) pl.isList (by simpa using Vals.ints rv) (by unfold scanBound; omega) fun h' tk c R hc hk => ?_
    refine ⟨.ref s.heap.objs.size, upd H s.heap.objs.size (SetO (C.X j).w s.heap.objs.size (fun j => decide (j ∈ ns)) c), I.laid (t' := tk) hk (Nat.le_refl _) (setO_new R), rfl, ?_⟩
    rw [ok.hw j]
    exact q _ _ _ hn (fun k => by rw [decide_eq_true_eq]) (setR_len R)
  · rw [← ok.hK j] at hq
    obtain ⟨its, rv, pl, hz⟩ := I.tuple hq
    refine call_set_tupI ns (I.ok.hd (ok.calm j)) pl (by simpa using Vals.ints rv) (by unfold scanBound; omega) fun h' tk c R hc hk => ?_
    refine ⟨.ref s.heap.objs.size, upd H s.heap.objs.size (SetO (C.X j).w s.heap.objs.size (fun j => decide (j ∈ ns)) c), I.laid (t' := tk) hk (Nat.le_refl _) (setO_new R), rfl, ?_⟩
    rw [ok.hw j]
    exact q _ _ _ hn (fun k => by rw [decide_eq_true_eq]) (setR_len R)
def rSetT (g : G) : List V → Hp → VK → Prop := fun xs H Q => ∃ (l : Addr) (ks : List (Addr × List Int)), xs = [V.ref l] ∧ SqL g.K H l (ks.map fun p => V.ref p.1) ∧ (∀ p ∈ ks, SqT g.K H p.1 (p.2.map V.int)) ∧ ks.length < 64 ∧
  ∀ a L, H a = none → (∀ p ∈ L, p ∈ ks) → (∀ p ∈ ks, p.2 ∈ L.map (·.2)) → (L.map (·.2)).Nodup → Q (.ref a) (upd H a (SetTO g.P g.w a L))
theorem units64 {k : Nat} {A : Around} (r : Room k A) : A.units + 64 < cLine := by have := r.un; omega
theorem c_setT (ok : C.Ok) (j : ι) : CallR (C.X j) (.type "set") (rSetT C.g) := by
  intro pins s σ H xs us Q I r h
  obtain ⟨l, ks, rfl, hl, hk, hf, q⟩ := h
  rw [← ok.hK j] at hl hk
  rw [Vals.ref1 r]
  obtain ⟨its, rv, pl, hz⟩ := I.list hl
  have hn : H s.heap.objs.size = none := I.hok.fresh (Nat.le_refl _)
  have u := units64 (ok.room j)
  refine call_set_tups (P := (C.X j).prog) (w := (C.X j).w) ks (I.ok.hd (ok.calm j)) pl.isList (by simpa using refs_of_vals rv) (fun p hp => I.isT (hk p hp)) hf (by omega) fun h' tk L es ep t R g k => ?_
  refine ⟨.ref s.heap.objs.size, upd H s.heap.objs.size (SetTO (C.X j).prog (C.X j).w s.heap.objs.size L), I.laid (t' := tk) k (Nat.le_refl _) (setTO_new R.t0), rfl, ?_⟩
  rw [ok.hw j, ok.hP j]
  exact q _ L hn (fun p hp => List.mem_of_mem_take (g.sub p hp)) (fun p hp => g.all p (by rw [List.take_length]; exact hp)) R.nd
theorem IsAll.refsT (sub : Le F H) : ∀ {vs : List V} {nss : List (List Int)}, IsAll g F vs (nss.map tupI) → ∃ ks : List (Addr × List Int), vs = ks.map (fun p => V.ref p.1) ∧ ks.map (·.2) = nss ∧ ∀ p ∈ ks, TupR g.K F p.1 (p.2.map V.int)
  | _, [], .nil => ⟨[], rfl, rfl, fun p hp => nomatch hp⟩
  | _, n :: nss, .cons r t => by
    obtain ⟨ks, k1, k2, k3⟩ := IsAll.refsT sub t
    cases r with
    | tup hr ht =>
      rename_i a vs
      have e : vs = n.map V.int := by
        have : ∀ {vs : List V} {n : List Int}, IsAll g F vs (n.map D.int) → vs = n.map V.int := by
          intro vs n
          induction n generalizing vs with
          | nil => intro h; cases h; rfl
          | cons i n ih =>
            intro h
            cases h with
            | cons r t => cases r; rw [ih t]; rfl
        exact this ht
      subst e
      exact ⟨(a, n) :: ks, by rw [k1]; rfl, by rw [List.map_cons, k2], fun p hp => by
        rcases List.mem_cons.mp hp with rfl | hp
        · exact hr
        · exact k3 p hp⟩
theorem s_set : CallS C (fun xs H Q => rSetI C.g xs H Q ∨ rSetT C.g xs H Q) setO := by
  intro B F H μ ρ σ vs ds Q R hv h
  match ds, hv, h with
  | [d], hv, h =>
    obtain ⟨u, rfl, hu⟩ := hv.one
    have h : Post C B F H μ σ (((items d).bind fun ds => match ints? ds with
      | some ns => if ns.length ≤ 1000 then Out.ok (D.set (.ints (dd ns))) else .bad
      | none => setTO d (tups? ds)).bind fun d => .ok (d, ρ)) _ := h
    cases ei : items d with
    | exc z => exact absurd ei (items_ne _ _)
    | bad => rw [ei] at h; exact h.elim
    | ok xs =>
      rw [ei] at h
      replace h : Post C B F H μ σ ((match ints? xs with
        | some ns => if ns.length ≤ 1000 then Out.ok (D.set (.ints (dd ns))) else .bad
        | none => setTO d (tups? xs)).bind fun d => .ok (d, ρ)) _ := h
      obtain ⟨a, ws, rfl, hq, t⟩ := hu.items R.sub ei
      cases e : ints? xs with
      | some ns =>
        simp only [e] at h
        by_cases q : ns.length ≤ 1000
        · rw [if_pos q] at h
          rw [ints?_eq e] at t
          have ew : ws = ns.map V.int := by
            have : ∀ {vs : List V} {n : List Int}, IsAll C.g F vs (n.map D.int) → vs = n.map V.int := by
              intro vs n
              induction n generalizing vs with
              | nil => intro h; cases h; rfl
              | cons i n ih =>
                intro h
                cases h with
                | cons r t => cases r; rw [ih t]; rfl
            exact this t
          subst ew
          refine .inl ⟨a, ns, rfl, hq, q, fun p S n hp hS hn => ?_⟩
          have hF := R.toBx.fresh hp
          refine h (upd F p (SetO C.g.w p S n)) _ (R.new hp _) (Step.new hF.1 hp) _ (.set ⟨S, n, upd_same, fun k => by rw [hS k, mem_dd], dd_nodup ns, hn.symm⟩)
        · rw [if_neg q] at h; exact h.elim
      | none =>
        simp only [e] at h
        cases d with
        | lst ys =>
          have : xs = ys := by
            unfold items at ei
            exact (Out.ok.inj ei).symm
          subst this
          cases e2 : tups? xs with
          | none => simp only [e2, setTO] at h; exact h.elim
          | some nss =>
            simp only [e2, setTO] at h
            by_cases q : nss.length < 64
            · rw [if_pos q] at h
              obtain ⟨a', vs', e1, ha, t'⟩ := hu.lst R.sub
              cases e1
              rw [tups?_eq e2] at t'
              obtain ⟨ks, k1, k2, k3⟩ := IsAll.refsT R.sub t'
              have hl : SqL C.g.K H a vs' := .inl (.inl ha)
              subst k1
              refine .inr ⟨a, ks, rfl, hl, fun p hp => (R.sub.tupR (k3 p hp)).sq, by rw [← List.length_map (f := (·.2)), k2]; exact q, fun p L hp h1 h2 h3 => ?_⟩
              have hF := R.toBx.fresh hp
              refine h (upd F p (SetTO C.g.P C.g.w p L)) _ (R.new hp _) (Step.new hF.1 hp) _ (.set ⟨L, upd_same, fun r hr => (Le.upd hF.1).tupR (k3 r (h1 r hr)), perm_of_mem h3 (ddT_nodup nss) fun y => ?_⟩)
              rw [mem_ddT, ← k2]
              constructor
              · intro hy
                obtain ⟨r, hr, rfl⟩ := List.mem_map.mp hy
                exact List.mem_map.mpr ⟨r, h1 r hr, rfl⟩
              · intro hy
                obtain ⟨r, hr, rfl⟩ := List.mem_map.mp hy
                exact h2 r hr
            · rw [if_neg q] at h; exact h.elim
        | _ => exact h.elim
  | [], _, h => exact h.elim
  | _ :: _ :: _, _, h => exact h.elim
end
end PyD

set_option Elab.async false
set_option linter.all false
set_option maxRecDepth 100000
/-! len and sorted, also of sets. -/
namespace PyD
open PySem L2 L2X PyProof.Rows
section
variable {ι : Type} {C : Ctx ι} {μ : List Md} {e a b c : Expr} {es : List Expr} {pos p p2 p3 q : Pos} {x : Str} {g : G} {B : Base} {F H : Hp} {ρ : Env} {σ : L2.St}
/-! ### sorted -/
def sortO3 : List D → Out D
  | [.set (.ints ns)] => if ns.length < 64 then .ok (.lst ((isort ns).map D.int)) else .bad
  | [.set (.tups nss)] => if okT nss = true then .ok (.lst ((isortT nss).map tupI)) else .bad
  | ds => sortO2 ds
def rSort3 (g : G) : List V → Hp → VK → Prop := fun xs H Q => (rSortedI g.K xs H Q ∨ rSortTD g xs H Q) ∨ rSortedSet g.w xs H Q ∨ rSortedT g.K g.P g.w xs H Q
theorem c_sort3 (ok : C.Ok) (j : ι) : CallR (C.X j) (.builtin "sorted") (rSort3 C.g) := by
  intro pins s σ H xs us Q I r h
  rcases h with h | h | h
  · exact c_sort2 ok j pins s σ H xs us Q I r h
  · rw [← ok.hw j] at h
    exact cr_sortedSet (ok.calm j) pins s σ H xs us Q I r h
  · rw [← ok.hw j, ← ok.hK j, ← ok.hP j] at h
    exact cr_sortedT (ok.calm j) pins s σ H xs us Q I r h
theorem RdR.set {v : V} {k : SK} (h : RdR g F H v (.set k)) : ∃ a, v = .ref a ∧ PyD.SetAt g F a k := by
  rcases h with h | ⟨a, o, _, _, c⟩
  · cases h with
    | set r => exact ⟨_, rfl, r⟩
  · cases c
theorem IsAll.tupsOf : ∀ {L : List (Addr × List Int)}, (∀ p ∈ L, TupR g.K F p.1 (p.2.map V.int)) → IsAll g F (L.map fun q => V.ref q.1) ((L.map (·.2)).map tupI)
  | [], _ => .nil
  | p :: L, h => .cons (.tup (h p List.mem_cons_self) (IsAll.ints _)) (IsAll.tupsOf fun q hq => h q (List.mem_cons_of_mem _ hq))
theorem isort_of {ns ms : List Int} (h1 : ms.Pairwise (· < ·)) (nd : ns.Nodup) (h2 : ∀ k, k ∈ ms ↔ k ∈ ns) : ms = isort ns := by
  have nm : ms.Nodup := h1.imp fun h e => by omega
  have p : ms.Perm ns := perm_of_mem nm nd h2
  exact sorted_uniq (p.trans (isort_perm ns).symm) (h1.imp fun h => by omega) (isort_sorted ns)
theorem s_sort3 : CallN C (rSort3 C.g) sortO3 := by
  intro B F H μ ρ σ vs ds Q R hv h
  have go : sortO3 ds = sortO2 ds → rSort3 C.g vs H Q := fun e => by
    rw [e] at h
    exact .inl (s_sort2 B F H μ ρ σ vs ds Q R hv h)
  match ds, hv, h, go with
  | [.set (.ints ns)], hv, h, go =>
    obtain ⟨u, rfl, hu⟩ := hv.one
    obtain ⟨a, rfl, S, n, h1, h2, h3, h4⟩ := hu.set
    have h : Post C B F H μ σ ((if ns.length < 64 then Out.ok (D.lst ((isort ns).map D.int)) else .bad).bind fun d => .ok (d, ρ)) _ := h
    by_cases q : ns.length < 64
    · rw [if_pos q] at h
      refine .inr (.inl ⟨a, S, n, rfl, R.sub _ _ h1, by omega, fun ms p m1 m2 m3 hp => ?_⟩)
      have e := isort_of m1 h3 fun k => by rw [m2 k, h2 k]
      rw [e]
      exact Post.lstN (Q := Q) h R hp (IsAll.ints _)
    · rw [if_neg q] at h; exact h.elim
  | [.set (.tups nss)], hv, h, go =>
    obtain ⟨u, rfl, hu⟩ := hv.one
    obtain ⟨a, rfl, L, h1, h2, h3⟩ := hu.set
    have h : Post C B F H μ σ ((if okT nss = true then Out.ok (D.lst ((isortT nss).map tupI)) else .bad).bind fun d => .ok (d, ρ)) _ := h
    by_cases q : okT nss = true
    · rw [if_pos q] at h
      obtain ⟨k1, k2, k3⟩ := okT_of q
      have km : ∀ p ∈ L, p.2 ∈ nss := fun p hp => h3.mem_iff.mp (List.mem_map.mpr ⟨p, hp, rfl⟩)
      refine .inr (.inr ⟨a, L, (nss.headD [0]).length, cBd, rfl, R.sub _ _ h1, fun p hp => (R.sub.tupR (h2 p hp)).sq, k2, fun p hp => k3 p.2 (km p hp), fun L' p m1 m2 m3 m4 hp => ?_⟩)
      have e : L'.map (·.2) = isortT nss := by
        refine sorted_uniqT ((m1.map (·.2)).trans (h3.trans (isortT_perm nss).symm)) (by rw [List.pairwise_map]; exact m4) (isortT_sorted nss) fun x hx y hy exy => ?_
        have mm : ∀ z ∈ L'.map (·.2), z ∈ nss := fun z hz => h3.mem_iff.mp ((m1.map (·.2)).mem_iff.mp hz)
        exact okT_inj q x (mm x hx) y (mm y hy) exy
      refine Post.lstN (Q := Q) h R hp ?_
      rw [← e]
      exact IsAll.tupsOf fun r hr => h2 r (m1.mem_iff.mp hr)
    · rw [if_neg q] at h; exact h.elim
  | [.lst xs], hv, h, go => exact go rfl
  | [.dic ks ws], hv, h, go => exact go rfl
  | [], hv, h, go => exact go rfl
  | z :: y :: l, hv, h, go => exact go (by cases z with
    | set k => cases k <;> rfl
    | _ => rfl)
  | [.tup xs], hv, h, go => exact go rfl
  | [.int xs], hv, h, go => exact go rfl
  | [.bl xs], hv, h, go => exact go rfl
  | [.non], hv, h, go => exact go rfl
  | [.str xs], hv, h, go => exact go rfl
  | [.scr xs], hv, h, go => exact go rfl
  | [.obj _ _ _], hv, h, go => exact go rfl
/-! ### len -/
def lenO3 : List D → Out D
  | [.set (.ints ns)] => .ok (.int ns.length)
  | [.set (.tups nss)] => .ok (.int nss.length)
  | ds => lenO2 ds
def rLenS (g : G) : List V → Hp → VK → Prop := fun xs H Q => ∃ a, xs = [.ref a] ∧ ((∃ S n, H a = some (SetO g.w a S n) ∧ Q (.int (n : Nat)) H) ∨ ∃ L, H a = some (SetTO g.P g.w a L) ∧ (∀ p ∈ L, SqT g.K H p.1 (p.2.map V.int)) ∧ Q (.int (L.length : Nat)) H)
theorem c_lenS (ok : C.Ok) (j : ι) : CallR (C.X j) (.builtin "len") (rLenS C.g) := by
  intro pins s σ H xs us Q I r h
  obtain ⟨a, rfl, h⟩ := h
  rw [Vals.ref1 r]
  rcases h with ⟨S, n, ha, q⟩ | ⟨L, ha, hk, q⟩
  · rw [← ok.hw j] at ha
    obtain ⟨o, es, ep, t, ho, hex, hd, _, _, _, hsz, hf, hn, _⟩ := setO_get I ha
    refine call_len_set ho hex hd hf (by unfold scanBound at hsz; omega) ⟨.int (n : Nat), H, I.tok _, ⟨_, by rw [hn]⟩, q⟩
  · rw [← ok.hw j, ← ok.hP j] at ha
    have R0 : SetT0 (C.X j).prog (C.X j).w s.heap a L := (I.hok a _ ha).1
    rw [← ok.hK j] at hk
    obtain ⟨es, ep, t, R⟩ := R0.full fun p hp => I.isT (hk p hp)
    obtain ⟨o, ho, hex, hd⟩ := R.ob
    have hs := R.size
    have hf := R.few
    exact call_len_set ho hex hd R.fits (by omega) ⟨.int (L.length : Nat), H, I.tok _, ⟨_, by rw [hs]⟩, q⟩
theorem c_len3 (ok : C.Ok) (j : ι) : CallR (C.X j) (.builtin "len") (fun xs H Q => rLen2 C.g xs H Q ∨ rLenS C.g xs H Q) := by
  intro pins s σ H xs us Q I r h
  rcases h with h | h
  · exact c_len2 ok j pins s σ H xs us Q I r h
  · exact c_lenS ok j pins s σ H xs us Q I r h
theorem s_len3 : CallS C (fun xs H Q => rLen2 C.g xs H Q ∨ rLenS C.g xs H Q) lenO3 := by
  intro B F H μ ρ σ vs ds Q R hv h
  have go : lenO3 ds = lenO2 ds → (rLen2 C.g vs H Q ∨ rLenS C.g vs H Q) := fun e => by
    rw [e] at h
    exact .inl (s_len2 B F H μ ρ σ vs ds Q R hv h)
  match ds, hv, h, go with
  | [.set (.ints ns)], hv, h, go =>
    obtain ⟨u, rfl, hu⟩ := hv.one
    obtain ⟨a, rfl, S, n, h1, h2, h3, h4⟩ := hu.set
    refine .inr ⟨a, rfl, .inl ⟨S, n, R.sub _ _ h1, ?_⟩⟩
    rw [← h4]
    exact h.sc R (.int _)
  | [.set (.tups nss)], hv, h, go =>
    obtain ⟨u, rfl, hu⟩ := hv.one
    obtain ⟨a, rfl, L, h1, h2, h3⟩ := hu.set
    refine .inr ⟨a, rfl, .inr ⟨L, R.sub _ _ h1, fun p hp => (R.sub.tupR (h2 p hp)).sq, ?_⟩⟩
    have e := h3.length_eq
    rw [List.length_map] at e
    rw [e]
    exact h.sc R (.int _)
  | [.lst xs], hv, h, go => exact go rfl
  | [.dic ks ws], hv, h, go => exact go rfl
  | [], hv, h, go => exact go rfl
  | z :: y :: l, hv, h, go => exact go (by cases z with
    | set k => cases k <;> rfl
    | _ => rfl)
  | [.tup xs], hv, h, go => exact go rfl
  | [.int xs], hv, h, go => exact go rfl
  | [.bl xs], hv, h, go => exact go rfl
  | [.non], hv, h, go => exact go rfl
  | [.str xs], hv, h, go => exact go rfl
  | [.scr xs], hv, h, go => exact go rfl
  | [.obj _ _ _], hv, h, go => exact go rfl
theorem x_set (ok : C.Ok) (hm : C.g.mg "set" = none) {ms : Env → Out (List Arg × Env)} (ha : DOs C μ (e :: es) ms) (hg : glB C.sc "set" = true := by kernel_rfl!)
    (he : ∀ j, starEach (e :: es) (C.X j).env = (false, eval e (C.X j).env) :: starEach es (C.X j).env := by intro _; rfl) (hpl : ∀ j, (backTo pos (starEach es (C.X j).env)).any (·.1) = false := by intro _; rfl) :
    DE C μ (.Call (.Name "set" p) (e :: es) [] pos) (M.callB setO ms) := de_callTy ok (fun j => by
      intro pins s σ H xs us Q I r h
      rcases h with h | h
      · exact c_setI ok j pins s σ H xs us Q I r h
      · exact c_setT ok j pins s σ H xs us Q I r h) s_set (gl ok hg) hm (by decide +kernel) ha (by decide) (by decide) he hpl
theorem x_sort3 (ok : C.Ok) (hm : C.g.mg "sorted" = none) {ms : Env → Out (List Arg × Env)} (ha : DOs C μ (e :: es) ms) (hg : glB C.sc "sorted" = true := by kernel_rfl!)
    (he : ∀ j, starEach (e :: es) (C.X j).env = (false, eval e (C.X j).env) :: starEach es (C.X j).env := by intro _; rfl) (hpl : ∀ j, (backTo pos (starEach es (C.X j).env)).any (·.1) = false := by intro _; rfl) :
    DN C μ (.Call (.Name "sorted" p) (e :: es) [] pos) (M.callB sortO3 ms) := dn_callB ok (c_sort3 ok) s_sort3 (gl ok hg) hm (by decide +kernel) ha (by decide) (by decide) he hpl
theorem x_len3 (ok : C.Ok) (hm : C.g.mg "len" = none) {ms : Env → Out (List Arg × Env)} (ha : DOs C μ (e :: es) ms) (hg : glB C.sc "len" = true := by kernel_rfl!)
    (he : ∀ j, starEach (e :: es) (C.X j).env = (false, eval e (C.X j).env) :: starEach es (C.X j).env := by intro _; rfl) (hpl : ∀ j, (backTo pos (starEach es (C.X j).env)).any (·.1) = false := by intro _; rfl) :
    DE C μ (.Call (.Name "len" p) (e :: es) [] pos) (M.callB lenO3 ms) := de_callB ok (c_len3 ok) s_len3 (gl ok hg) hm (by decide +kernel) ha (by decide) (by decide) he hpl
end
end PyD

set_option Elab.async false
set_option linter.all false
set_option maxRecDepth 100000
/-! Reasoning over mirrors. -/
namespace PyD
open PySem
def Out.wp {α : Type} (o : Out α) (P : α → Prop) (X : Exc → Prop) : Prop := match o with
  | .ok a => P a
  | .exc x => X x
  | .bad => False
structure Kt where
  n : Env → Prop
  r : D → Env → Prop
  b : Env → Prop
  c : Env → Prop
  x : Exc → Prop
def SOut.wp (o : SOut) (K : Kt) : Prop := match o with
  | .nx ρ => K.n ρ
  | .brk ρ => K.b ρ
  | .cont ρ => K.c ρ
  | .ret d ρ => K.r d ρ
  | .exc x => K.x x
  | .bad => False
section
variable {α β : Type} {P Q : α → Prop} {X Y : Exc → Prop} {K : Kt} {ρ : Env}
@[simp ↓] theorem wp_ok (a : α) : (Out.ok a).wp P X = P a := (rfl)
@[simp ↓] theorem wp_exc (x : Exc) : (Out.exc x : Out α).wp P X = X x := (rfl)
@[simp ↓] theorem wp_bad : (Out.bad : Out α).wp P X = False := (rfl)
@[simp ↓] theorem wp_bind (o : Out β) (f : β → Out α) : (o.bind f).wp P X = o.wp (fun a => (f a).wp P X) X := by cases o <;> rfl
@[simp ↓] theorem wp_ite {c : Prop} [Decidable c] (a b : Out α) : (if c then a else b).wp P X = if c then a.wp P X else b.wp P X := by split <;> rfl
theorem Out.wp.mono {o : Out α} (h : o.wp P X) (k : ∀ a, P a → Q a) (kx : ∀ x, X x → Y x) : o.wp Q Y := by
  cases o with
  | ok a => exact k a h
  | exc x => exact kx x h
  | bad => exact h
theorem Out.wp.imp {o : Out α} (h : o.wp P X) (k : ∀ a, P a → Q a) : o.wp Q X := h.mono k fun _ q => q
theorem wp_of_eq {o : Out α} {a : α} (h : o = .ok a) (k : P a) : o.wp P X := by rw [h]; exact k
theorem eq_of_wp {o : Out α} {a : α} (h : o.wp (fun b => b = a) (fun _ => False)) : o = .ok a := by
  cases o with
  | ok b => exact congrArg Out.ok h
  | exc x => exact h.elim
  | bad => exact h.elim
@[simp ↓] theorem swp_nx (ρ : Env) : (SOut.nx ρ).wp K = K.n ρ := (rfl)
@[simp ↓] theorem swp_brk (ρ : Env) : (SOut.brk ρ).wp K = K.b ρ := (rfl)
@[simp ↓] theorem swp_cont (ρ : Env) : (SOut.cont ρ).wp K = K.c ρ := (rfl)
@[simp ↓] theorem swp_ret (d : D) (ρ : Env) : (SOut.ret d ρ).wp K = K.r d ρ := (rfl)
@[simp ↓] theorem swp_exc (x : Exc) : (SOut.exc x).wp K = K.x x := (rfl)
@[simp ↓] theorem swp_bad : SOut.bad.wp K = False := (rfl)
@[simp ↓] theorem swp_ite {c : Prop} [Decidable c] (a b : SOut) : (if c then a else b).wp K = if c then a.wp K else b.wp K := by split <;> rfl
@[simp ↓] theorem swp_then (o : Out α) (f : α → SOut) : (o.then f).wp K = o.wp (fun a => (f a).wp K) K.x := by cases o <;> rfl
@[simp ↓] theorem swp_seq (o : SOut) (f : Env → SOut) : (o.seq f).wp K = o.wp { K with n := fun ρ => (f ρ).wp K } := by cases o <;> rfl
theorem SOut.wp.mono {o : SOut} {K K' : Kt} (h : o.wp K) (k1 : ∀ ρ, K.n ρ → K'.n ρ) (k2 : ∀ d ρ, K.r d ρ → K'.r d ρ) (k3 : ∀ ρ, K.b ρ → K'.b ρ) (k4 : ∀ ρ, K.c ρ → K'.c ρ) (k5 : ∀ x, K.x x → K'.x x) : o.wp K' := by
  cases o with
  | nx ρ => exact k1 ρ h
  | brk ρ => exact k3 ρ h
  | cont ρ => exact k4 ρ h
  | ret d ρ => exact k2 d ρ h
  | exc x => exact k5 x h
  | bad => exact h
/-! ### statements -/
variable {m m' : Env → SOut} {me mi : Env → Out (D × Env)} {mc : Env → Out (Bool × Env)} {i : Nat}
@[simp ↓] theorem w_seq : (M.seq m m' ρ).wp K = (m ρ).wp { K with n := fun ρ => (m' ρ).wp K } := swp_seq _ _
@[simp ↓] theorem w_skip : (M.skip ρ).wp K = K.n ρ := (rfl)
@[simp ↓] theorem w_brk : (M.brk ρ).wp K = K.b ρ := (rfl)
@[simp ↓] theorem w_cont : (M.cont ρ).wp K = K.c ρ := (rfl)
@[simp ↓] theorem w_never : (M.never ρ).wp K = False := (rfl)
@[simp ↓] theorem w_drop : (M.drop me ρ).wp K = (me ρ).wp (fun p => K.n p.2) K.x := swp_then _ _
@[simp ↓] theorem w_asg : (M.asg i me ρ).wp K = (me ρ).wp (fun p => K.n (p.2.set i (some p.1))) K.x := swp_then _ _
@[simp ↓] theorem w_ret : (M.ret me ρ).wp K = (me ρ).wp (fun p => K.r p.1 p.2) K.x := swp_then _ _
@[simp ↓] theorem w_retN : (M.retN ρ).wp K = K.r .non ρ := (rfl)
@[simp ↓] theorem w_cond : (M.cond mc m m' ρ).wp K = (mc ρ).wp (fun p => if p.1 = true then (m p.2).wp K else (m' p.2).wp K) K.x := by
  unfold M.cond
  rw [swp_then]
  simp only [swp_ite]
@[simp ↓] theorem w_store2 : (M.store2 i me mi ρ).wp K = (me ρ).wp (fun p => (mi p.2).wp (fun q => (sto2 i p.1 q.1 q.2).wp K) K.x) K.x := by
  unfold M.store2
  rw [swp_then]
  simp only [swp_then]
@[simp ↓] theorem w_unpack {f : D → Env → Out Env} : (M.unpack me f ρ).wp K = (me ρ).wp (fun p => (f p.1 p.2).wp K.n (fun _ => False)) K.x := by
  unfold M.unpack
  rw [swp_then]
  congr 1
  funext p
  cases f p.1 p.2 <;> rfl
/-- a name that is there -/
def at_ (ρ : Env) (i : Nat) (P : D → Prop) : Prop := match ρ[i]? with
  | some (some d) => P d
  | _ => False
@[simp ↓] theorem at_zero (d : D) (ρ : Env) (P : D → Prop) : at_ (some d :: ρ) 0 P = P d := (rfl)
@[simp ↓] theorem at_none (ρ : Env) (P : D → Prop) : at_ (none :: ρ) 0 P = False := (rfl)
@[simp ↓] theorem at_succ (o : Option D) (ρ : Env) (i : Nat) (P : D → Prop) : at_ (o :: ρ) (i + 1) P = at_ ρ i P := (rfl)
@[simp ↓] theorem w_retO : (M.retO i ρ).wp K = at_ ρ i fun d => K.r d ρ := by
  unfold M.retO at_
  rcases ρ[i]? with _ | (_ | d) <;> rfl
@[simp ↓] theorem w_aug {f : D → D → Out D} : (M.aug f i me ρ).wp K = at_ ρ i fun x => (me ρ).wp (fun p => (f x p.1).wp (fun d => K.n (p.2.set i (some d))) K.x) K.x := by
  unfold M.aug at_
  rcases ρ[i]? with _ | (_ | d)
  · rfl
  · rfl
  · simp only [swp_then, swp_nx]
@[simp ↓] theorem w_sto2 (v k : D) : (sto2 i v k ρ).wp K = at_ ρ i fun c => (stoO c k v).wp (fun c' => K.n (ρ.set i (some c'))) (fun _ => False) := by
  unfold sto2 at_
  rcases ρ[i]? with _ | (_ | d)
  · rfl
  · rfl
  · dsimp only
    cases stoO d k v <;> rfl
/-! ### expressions -/
variable {R : D × Env → Prop} {A : Arg × Env → Prop} {T : Bool × Env → Prop} {L : List D × Env → Prop} {LA : List Arg × Env → Prop} {oa ob oc : Env → Out (Arg × Env)} {d : D} {ms : Env → Out (List D × Env)} {mas : Env → Out (List Arg × Env)}
@[simp ↓] theorem w_var : (M.var i ρ).wp R X = at_ ρ i fun d => R (d, ρ) := by
  unfold M.var at_
  rcases ρ[i]? with _ | (_ | d) <;> rfl
@[simp ↓] theorem w_ovar : (M.ovar i ρ).wp A X = at_ ρ i fun _ => A (.var i, ρ) := by
  unfold M.ovar at_
  rcases ρ[i]? with _ | (_ | d) <;> rfl
@[simp ↓] theorem w_oval : (M.oval me ρ).wp A X = (me ρ).wp (fun p => A (.val p.1, p.2)) X := wp_bind _ _
@[simp ↓] theorem w_cst : (M.cst d ρ).wp R X = R (d, ρ) := (rfl)
@[simp ↓] theorem w_getv {P : D → Prop} : (get (.val d) ρ).wp P X = P d := (rfl)
@[simp ↓] theorem w_getn {P : D → Prop} : (get (.var i) ρ).wp P X = at_ ρ i P := by
  show (match ρ[i]? with | some (some d) => (Out.ok d : Out D) | _ => .bad).wp P X = at_ ρ i P
  unfold at_
  rcases ρ[i]? with _ | (_ | d) <;> rfl
@[simp ↓] theorem w_op1 {f : D → Out α} {P : α × Env → Prop} : (M.op1 f oa ρ).wp P X = (oa ρ).wp (fun p => (get p.1 p.2).wp (fun x => (f x).wp (fun d => P (d, p.2)) X) X) X := by
  unfold M.op1; simp only [wp_bind, wp_ok]
@[simp ↓] theorem w_op2 {f : D → D → Out α} {P : α × Env → Prop} : (M.op2 f oa ob ρ).wp P X = (oa ρ).wp (fun p => (ob p.2).wp (fun q => (get p.1 q.2).wp (fun x => (get q.1 q.2).wp (fun y => (f x y).wp (fun d => P (d, q.2)) X) X) X) X) X := by
  unfold M.op2; simp only [wp_bind, wp_ok]
def isBl (d : D) (P : Bool → Prop) : Prop := match d with
  | .bl b => P b
  | _ => False
@[simp ↓] theorem isBl_bl (b : Bool) (P : Bool → Prop) : isBl (.bl b) P = P b := (rfl)
@[simp ↓] theorem w_bool : (M.bool me ρ).wp T X = (me ρ).wp (fun p => isBl p.1 fun b => T (b, p.2)) X := by
  unfold M.bool
  rw [wp_bind]
  congr 1
  funext p
  cases p.1 <;> rfl
variable {ca cb : Env → Out (Bool × Env)}
@[simp ↓] theorem w_and : (M.and ca cb ρ).wp T X = (ca ρ).wp (fun p => if p.1 = true then (cb p.2).wp T X else T (false, p.2)) X := by
  unfold M.and; rw [wp_bind]; simp only [wp_ite, wp_ok]
@[simp ↓] theorem w_or : (M.or ca cb ρ).wp T X = (ca ρ).wp (fun p => if p.1 = true then T (true, p.2) else (cb p.2).wp T X) X := by
  unfold M.or; rw [wp_bind]; simp only [wp_ite, wp_ok]
@[simp ↓] theorem w_not : (M.not ca ρ).wp T X = (ca ρ).wp (fun p => T (!p.1, p.2)) X := wp_bind _ _
@[simp ↓] theorem w_andV : (M.andV me mi ρ).wp R X = (me ρ).wp (fun p => isBl p.1 fun b => if b = true then (mi p.2).wp R X else R (.bl false, p.2)) X := by
  unfold M.andV
  rw [wp_bind]
  congr 1
  funext p
  cases p.1 with
  | bl b => cases b <;> rfl
  | _ => rfl
@[simp ↓] theorem w_orV : (M.orV me mi ρ).wp R X = (me ρ).wp (fun p => isBl p.1 fun b => if b = true then R (.bl true, p.2) else (mi p.2).wp R X) X := by
  unfold M.orV
  rw [wp_bind]
  congr 1
  funext p
  cases p.1 with
  | bl b => cases b <;> rfl
  | _ => rfl
@[simp ↓] theorem w_notV : (M.notV me ρ).wp R X = (me ρ).wp (fun p => isBl p.1 fun b => R (.bl (!b), p.2)) X := by
  unfold M.notV
  rw [wp_bind]
  congr 1
  funext p
  cases p.1 <;> rfl
@[simp ↓] theorem w_iteM : (M.ite mc me mi ρ).wp R X = (mc ρ).wp (fun p => if p.1 = true then (me p.2).wp R X else (mi p.2).wp R X) X := by
  unfold M.ite; rw [wp_bind]; simp only [wp_ite]
@[simp ↓] theorem w_nil {P : List α × Env → Prop} : (M.nil ρ).wp P X = P ([], ρ) := (rfl)
@[simp ↓] theorem w_cons {a : Env → Out (α × Env)} {b : Env → Out (List α × Env)} {P : List α × Env → Prop} : (M.cons a b ρ).wp P X = (a ρ).wp (fun p => (b p.2).wp (fun q => P (p.1 :: q.1, q.2)) X) X := by
  unfold M.cons; simp only [wp_bind, wp_ok]
@[simp ↓] theorem w_map {f : α → Out β} {a : Env → Out (α × Env)} {P : β × Env → Prop} : (M.map f a ρ).wp P X = (a ρ).wp (fun p => (f p.1).wp (fun d => P (d, p.2)) X) X := by
  unfold M.map; simp only [wp_bind, wp_ok]
@[simp ↓] theorem w_tup : (M.tup ms ρ).wp R X = (ms ρ).wp (fun p => if p.1.length ≤ 100000 then R (.tup p.1, p.2) else False) X := by
  unfold M.tup; rw [w_map]; simp only [wp_ite, wp_ok, wp_bad]
@[simp ↓] theorem w_lst : (M.lst ms ρ).wp R X = (ms ρ).wp (fun p => if p.1.length ≤ 100000 then R (.lst p.1, p.2) else False) X := by
  unfold M.lst; rw [w_map]; simp only [wp_ite, wp_ok, wp_bad]
@[simp ↓] theorem w_getsN {P : List D → Prop} : (gets [] ρ).wp P X = P [] := (rfl)
@[simp ↓] theorem w_getsC {a : Arg} {as : List Arg} {P : List D → Prop} : (gets (a :: as) ρ).wp P X = (get a ρ).wp (fun d => (gets as ρ).wp (fun ds => P (d :: ds)) X) X := by
  show ((get a ρ).bind fun d => (gets as ρ).bind fun ds => .ok (d :: ds)).wp P X = _
  simp only [wp_bind, wp_ok]
@[simp ↓] theorem w_callB {f : List D → Out D} : (M.callB f mas ρ).wp R X = (mas ρ).wp (fun p => (gets p.1 p.2).wp (fun ds => (f ds).wp (fun d => R (d, p.2)) X) X) X := by
  unfold M.callB; simp only [wp_bind, wp_ok]
@[simp ↓] theorem w_call {μ pm : List Md} {f : List D → Out (D × List D)} : (M.call μ pm f mas ρ).wp R X = (mas ρ).wp (fun p => if chk μ pm p.1 = true then (gets p.1 p.2).wp (fun ds => (f ds).wp (fun r => R (r.1, setAll p.2 (owIdx pm p.1) r.2)) X) X else False) X := by
  unfold M.call
  simp only [wp_bind, wp_ok, wp_ite, wp_bad]
@[simp ↓] theorem w_iv : (M.iv i ρ).wp L X = at_ ρ i fun d => (walked d).wp (fun ds => L (ds, ρ)) X := by
  unfold M.iv at_
  rcases ρ[i]? with _ | (_ | d)
  · rfl
  · rfl
  · simp only [wp_bind, wp_ok]
@[simp ↓] theorem w_ien : (M.ien i ρ).wp L X = at_ ρ i fun d => (walked d).wp (fun ds => L (enD ds, ρ)) X := by
  unfold M.ien at_
  rcases ρ[i]? with _ | (_ | d)
  · rfl
  · rfl
  · simp only [wp_bind, wp_ok]
variable {PI : Option Int × Env → Prop} {ml mh : Env → Out (Option Int × Env)}
@[simp ↓] theorem w_pnone : (M.pnone ρ).wp PI X = PI (none, ρ) := (rfl)
def isInt (d : D) (P : Int → Prop) : Prop := match d with
  | .int i => P i
  | _ => False
@[simp ↓] theorem isInt_int (n : Int) (P : Int → Prop) : isInt (.int n) P = P n := (rfl)
@[simp ↓] theorem w_psome : (M.psome me ρ).wp PI X = (me ρ).wp (fun p => isInt p.1 fun n => PI (some n, p.2)) X := by
  unfold M.psome
  rw [wp_bind]
  congr 1
  funext p
  cases p.1 <;> rfl
@[simp ↓] theorem w_slice : (M.slice oa ml mh ρ).wp R X = (oa ρ).wp (fun p => (ml p.2).wp (fun l => (mh l.2).wp (fun h => (get p.1 h.2).wp (fun d => (sliceO d l.1 h.1).wp (fun r => R (r, h.2)) X) X) X) X) X := by
  unfold M.slice; simp only [wp_bind, wp_ok]
@[simp ↓] theorem w_chain {f f' : D → D → Out D} : (M.chain f f' oa ob oc ρ).wp R X = (oa ρ).wp (fun p => (ob p.2).wp (fun q => (get p.1 q.2).wp (fun x => (get q.1 q.2).wp (fun y => (f x y).wp (fun d => isBl d fun b => if b = true then (oc q.2).wp (fun r => (get q.1 r.2).wp (fun y' => (get r.1 r.2).wp (fun z => (f' y' z).wp (fun d => R (d, r.2)) X) X) X) X else R (.bl false, q.2)) X) X) X) X) X := by
  unfold M.chain
  simp only [wp_bind]
  congr 1; funext p
  congr 1; funext q
  congr 1; funext x
  congr 1; funext y
  congr 1; funext d
  cases d with
  | bl b => cases b <;> simp [chainK]
  | _ => rfl
def isLstD (d : D) (P : List D → Prop) : Prop := match d with
  | .lst ds => P ds
  | _ => False
@[simp ↓] theorem isLstD_lst (ds : List D) (P : List D → Prop) : isLstD (.lst ds) P = P ds := (rfl)
@[simp ↓] theorem w_met {f : List D → List D → Out (D × List D)} : (M.met i f ms ρ).wp R X = at_ ρ i fun d0 => isLstD d0 fun _ => (ms ρ).wp (fun p => at_ p.2 i fun d => isLstD d fun ds => (f ds p.1).wp (fun r => R (r.1, p.2.set i (some (.lst r.2)))) (fun _ => False)) X := by
  unfold M.met at_
  rcases ρ[i]? with _ | (_ | d0)
  · rfl
  · rfl
  · cases d0 with
    | lst d0 =>
      show ((ms ρ).bind (metK i f)).wp R X = (ms ρ).wp _ X
      rw [wp_bind]
      congr 1
      funext p
      unfold metK
      rcases p.2[i]? with _ | (_ | d)
      · rfl
      · rfl
      · cases d with
        | lst ds =>
          dsimp only [isLstD]
          cases f ds p.1 <;> rfl
        | _ => rfl
    | _ => rfl
@[simp ↓] theorem w_meth {S : List Nat} {f : D → List D → Out D} : (M.meth S f oa mas ρ).wp R X = (oa ρ).wp (fun p => (get p.1 p.2).wp (fun x => if tagD x ∈ S then (mas p.2).wp (fun q => (get p.1 q.2).wp (fun y => (gets q.1 q.2).wp (fun ds => if tagD y = tagD x then (f y ds).wp (fun d => R (d, q.2)) X else False) X) X) X else False) X) X := by
  unfold M.meth
  simp only [wp_bind, wp_ite, wp_bad]
  congr 1; funext p
  congr 1; funext x
  congr 1
  congr 1; funext q
  unfold methK
  simp only [wp_bind, wp_ite, wp_bad, wp_ok]
@[simp ↓] theorem w_is {T' : Ty} : (M.is T' oa ρ).wp R X = (oa ρ).wp (fun p => (get p.1 p.2).wp (fun x => (isD T' x).wp (fun b => R (.bl b, p.2)) X) X) X := by
  unfold M.is; rw [w_op1]; simp only [wp_bind, wp_ok]
@[simp ↓] theorem w_is2 {T' U : Ty} : (M.is2 T' U oa ρ).wp R X = (oa ρ).wp (fun p => (get p.1 p.2).wp (fun x => (isD T' x).wp (fun b => (isD U x).wp (fun c => R (.bl (b || c), p.2)) X) X) X) X := by
  unfold M.is2; rw [w_op1]; simp only [isD2, wp_bind, wp_ok]
@[simp ↓] theorem w_pcons {mk mv : Env → Out (D × Env)} {r : Env → Out (List (D × D) × Env)} {P : List (D × D) × Env → Prop} : (M.pcons mk mv r ρ).wp P X = (mk ρ).wp (fun p => (mv p.2).wp (fun q => (r q.2).wp (fun t => P ((p.1, q.1) :: t.1, t.2)) X) X) X := by
  unfold M.pcons; simp only [wp_bind, wp_ok]
@[simp ↓] theorem w_disp {r : Env → Out (List (D × D) × Env)} : (M.disp r ρ).wp R X = (r ρ).wp (fun p => (dispO p.1).wp (fun d => R (d, p.2)) X) X := by
  unfold M.disp; simp only [wp_bind, wp_ok]
@[simp ↓] theorem w_rgT : (M.rgT me ρ).wp R X = (me ρ).wp (fun p => isInt p.1 fun n => if rgOk 0 n = true then R (.tup (rgD 0 n), p.2) else False) X := by
  unfold M.rgT
  rw [w_map]
  congr 1; funext p
  cases p.1 with
  | int n => simp only [isInt_int, wp_ite, wp_ok, wp_bad]
  | _ => rfl
@[simp ↓] theorem w_rgL : (M.rgL me ρ).wp R X = (me ρ).wp (fun p => isInt p.1 fun n => if rgOk 0 n = true then R (.lst (rgD 0 n), p.2) else False) X := by
  unfold M.rgL
  rw [w_map]
  congr 1; funext p
  cases p.1 with
  | int n => simp only [isInt_int, wp_ite, wp_ok, wp_bad]
  | _ => rfl
/-! ### defs -/
@[simp ↓] theorem wp_fn {pm : List Md} {rm : Md} {N : Nat} {ds : List D} {P : D × List D → Prop} : (M.fn pm rm N m ds).wp P X = (if ds.length = pm.length then (m (ds.map some ++ List.replicate (N - pm.length) none)).wp
    ⟨fun ρ => if rm = .ow then False else (outs (ioOf pm) ρ).wp (fun os => P (.non, os)) X, fun d ρ => (outs (ioOf pm) ρ).wp (fun os => P (d, os)) X, fun _ => False, fun _ => False, X⟩ else False) := by
  unfold M.fn
  rw [wp_ite]
  congr 1
  cases h : m (ds.map some ++ List.replicate (N - pm.length) none) with
  | nx ρ => simp only [swp_nx, wp_ite, wp_bad, wp_bind, wp_ok]
  | ret d ρ => simp only [swp_ret, wp_bind, wp_ok]
  | exc x => rfl
  | _ => rfl
/-! ### loops -/
/-- for: by what holds with the rest ahead -/
theorem each_wp {tg : D → Env → Out Env} {body : Env → SOut} (I : List D → Env → Prop) (hs : ∀ d rest ρ, I (d :: rest) ρ → (tg d ρ).wp (fun ρ1 => (body ρ1).wp { K with n := I rest, c := I rest, b := K.n }) (fun _ => False)) (hn : ∀ ρ, I [] ρ → K.n ρ) :
    ∀ (ds : List D) (ρ : Env), I ds ρ → (M.each tg body ds ρ).wp K
  | [], ρ, h => hn ρ h
  | d :: ds, ρ, h => by
    have q := hs d ds ρ h
    unfold M.each
    cases e : tg d ρ with
    | exc x => rw [e] at q; exact q.elim
    | bad => rw [e] at q; exact q.elim
    | ok ρ1 =>
      rw [e, wp_ok] at q
      dsimp only
      cases e2 : body ρ1 with
      | nx ρ2 => rw [e2] at q; exact each_wp I hs hn ds ρ2 q
      | cont ρ2 => rw [e2] at q; exact each_wp I hs hn ds ρ2 q
      | brk ρ2 => rw [e2] at q; exact q
      | ret d ρ2 => rw [e2] at q; exact q
      | exc x => rw [e2] at q; exact q
      | bad => rw [e2] at q; exact q
@[simp ↓] theorem w_forE {it : Env → Out (List D × Env)} {tg : D → Env → Out Env} : (M.forE it tg m ρ).wp K = (it ρ).wp (fun p => (M.each tg m p.1 p.2).wp K) K.x := swp_then _ _
/-- while: by a measure that goes down -/
theorem loop_wp {body : Env → SOut} (I : Nat → Env → Prop) (hs : ∀ k ρ, I k ρ → (mc ρ).wp (fun p => if p.1 = true then (body p.2).wp { K with n := fun ρ => ∃ j, j < k ∧ I j ρ, c := fun ρ => ∃ j, j < k ∧ I j ρ, b := K.n } else K.n p.2) K.x) :
    ∀ (n k : Nat) (ρ : Env), k < n → I k ρ → (M.loop mc body n ρ).wp K
  | 0, k, ρ, h, _ => absurd h (Nat.not_lt_zero _)
  | n + 1, k, ρ, h, hI => by
    have q := hs k ρ hI
    unfold M.loop
    rw [swp_then]
    refine Out.wp.imp q fun p hp => ?_
    by_cases c : p.1 = true
    · rw [if_pos c] at hp ⊢
      cases e2 : body p.2 with
      | nx ρ2 => rw [e2] at hp; obtain ⟨j, hj, hI'⟩ := hp; exact loop_wp I hs n j ρ2 (by omega) hI'
      | cont ρ2 => rw [e2] at hp; obtain ⟨j, hj, hI'⟩ := hp; exact loop_wp I hs n j ρ2 (by omega) hI'
      | brk ρ2 => rw [e2] at hp; exact hp
      | ret d ρ2 => rw [e2] at hp; exact hp
      | exc x => rw [e2] at hp; exact hp
      | bad => rw [e2] at hp; exact hp
    · rw [if_neg c] at hp ⊢; exact hp
/-! ### comprehensions -/
theorem lcAux_wp {tg : D → Env → Out Env} {c : Env → Out (Bool × Env)} {own : List Nat} {P : List D × Env → Prop} (I : List D → List D → Env → Prop)
    (hs : ∀ d rest acc ρ, I (d :: rest) acc ρ → (tg d ρ).wp (fun ρ1 => (c ρ1).wp (fun p => if p.1 = true then (me p.2).wp (fun q => acc.length < 100000 ∧ I rest (acc ++ [q.1]) (M.wipeE q.2 own)) (fun _ => False) else I rest acc (M.wipeE p.2 own)) (fun _ => False)) (fun _ => False))
    (hn : ∀ acc ρ, I [] acc ρ → P (acc, ρ)) : ∀ (ds acc : List D) (ρ : Env), I ds acc ρ → (M.lcAux tg c me own ds acc ρ).wp P X
  | [], acc, ρ, h => hn acc ρ h
  | d :: ds, acc, ρ, h => by
    have q := hs d ds acc ρ h
    unfold M.lcAux
    cases e : tg d ρ with
    | exc x => rw [e] at q; exact q.elim
    | bad => rw [e] at q; exact q.elim
    | ok ρ1 =>
      rw [e, wp_ok] at q
      dsimp only
      cases e2 : c ρ1 with
      | exc x => rw [e2] at q; exact q.elim
      | bad => rw [e2] at q; exact q.elim
      | ok p =>
        obtain ⟨b, ρ2⟩ := p
        rw [e2, wp_ok] at q
        cases b with
        | false => exact lcAux_wp I hs hn ds acc _ (by simpa using q)
        | true =>
          simp only [if_true] at q
          cases e3 : me ρ2 with
          | exc x => rw [e3] at q; exact q.elim
          | bad => rw [e3] at q; exact q.elim
          | ok r =>
            rw [e3, wp_ok] at q
            obtain ⟨y, ρ3⟩ := r
            dsimp only
            rw [e3]
            dsimp only
            rw [if_pos q.1]
            exact lcAux_wp I hs hn ds _ _ q.2
@[simp ↓] theorem w_lc {it : Env → Out (List D × Env)} {tg : D → Env → Out Env} {c : Env → Out (Bool × Env)} {own : List Nat} : (M.lc it tg c me own ρ).wp R X = (it ρ).wp (fun p => (M.lcAux tg c me own p.1 [] (M.wipeE p.2 own)).wp (fun q => R (.lst q.1, M.back p.2 q.2 own)) X) X := by
  unfold M.lc; simp only [wp_bind, wp_ok]
@[simp ↓] theorem w_gn {P : Env → Prop} {d : D} : (M.gn i d ρ).wp P X = P (ρ.set i (some d)) := (rfl)
@[simp ↓] theorem w_yes : (M.yes ρ).wp T X = T (true, ρ) := (rfl)
@[simp ↓] theorem w_gnil {P : Env → Prop} : (M.gnil [] ρ).wp P X = P ρ := (rfl)
@[simp ↓] theorem w_gcons {f : D → Env → Out Env} {h : List D → Env → Out Env} {d : D} {r : List D} {P : Env → Prop} : (M.gcons f h (d :: r) ρ).wp P X = (f d ρ).wp (fun ρ' => (h r ρ').wp P X) X := by
  show ((f d ρ).bind fun ρ' => h r ρ').wp P X = _
  rw [wp_bind]
@[simp ↓] theorem w_gt {n : Nat} {h : List D → Env → Out Env} {ds : List D} {P : Env → Prop} : (M.gt n h (.tup ds) ρ).wp P X = if ds.length = n then (h ds ρ).wp P X else False := by
  show (if ds.length = n then h ds ρ else .bad).wp P X = _
  rw [wp_ite]; rfl
end
end PyD

set_option Elab.async false
set_option linter.all false
set_option maxRecDepth 100000
/-! What the small operations give. -/
namespace PyD
open PySem L2
section
variable {P : D → Prop} {X : Exc → Prop} {a b n m : Int}
@[simp ↓] theorem p_add : (addO (.int a) (.int b)).wp P X = P (.int (a + b)) := (rfl)
@[simp ↓] theorem p_addI : (addI (.int a) (.int b)).wp P X = P (.int (a + b)) := (rfl)
@[simp ↓] theorem p_sub : (subO (.int a) (.int b)).wp P X = P (.int (a - b)) := (rfl)
@[simp ↓] theorem p_mul : (mulO (.int a) (.int b)).wp P X = if mulOk a b = true then P (.int (a * b)) else False := by
  show (if mulOk a b = true then Out.ok (D.int (a * b)) else .bad).wp P X = _
  rw [wp_ite]; rfl
@[simp ↓] theorem p_fdiv : (fdivO (.int a) (.int b)).wp P X = if b ≠ 0 ∧ b.natAbs < 1073741824 then P (.int (a.fdiv b)) else False := by
  show (if b ≠ 0 ∧ b.natAbs < 1073741824 then Out.ok (D.int (a.fdiv b)) else .bad).wp P X = _
  rw [wp_ite]; rfl
@[simp ↓] theorem p_mod : (modO (.int a) (.int b)).wp P X = if b ≠ 0 then P (.int (a.fmod b)) else False := by
  show (if b ≠ 0 then Out.ok (D.int (a.fmod b)) else .bad).wp P X = _
  rw [wp_ite]; rfl
@[simp ↓] theorem p_pow : (powO (.int a) (.int b)).wp P X = if 0 ≤ b ∧ b ≤ 1000000 ∧ a.natAbs < 2 ^ 64 then P (.int (a ^ b.toNat)) else False := by
  show (if 0 ≤ b ∧ b ≤ 1000000 ∧ a.natAbs < 2 ^ 64 then Out.ok (D.int (a ^ b.toNat)) else .bad).wp P X = _
  rw [wp_ite]; rfl
@[simp ↓] theorem p_lt : (ltO (.int a) (.int b)).wp P X = P (.bl (decide (a < b))) := (rfl)
@[simp ↓] theorem p_le : (leO (.int a) (.int b)).wp P X = P (.bl (decide (a ≤ b))) := (rfl)
@[simp ↓] theorem p_gt : (gtO (.int a) (.int b)).wp P X = P (.bl (decide (b < a))) := (rfl)
@[simp ↓] theorem p_ge : (geO (.int a) (.int b)).wp P X = P (.bl (decide (b ≤ a))) := (rfl)
@[simp ↓] theorem p_neg : (negO (.int a)).wp P X = P (.int (-a)) := (rfl)
@[simp ↓] theorem p_isN (d : D) : (isNO d .non).wp P X = P (.bl (isNon d)) := (rfl)
@[simp ↓] theorem p_notN (d : D) : (notNO d .non).wp P X = P (.bl (!isNon d)) := (rfl)
@[simp ↓] theorem p_lenL (ds : List D) : (lenO2 [.lst ds]).wp P X = P (.int ds.length) := (rfl)
@[simp ↓] theorem p_lenT (ds : List D) : (lenO2 [.tup ds]).wp P X = P (.int ds.length) := (rfl)
@[simp ↓] theorem p_lenD (ks vs : List D) : (lenO2 [.dic ks vs]).wp P X = P (.int ks.length) := (rfl)
@[simp ↓] theorem p_tupL (ds : List D) : (tupO [.lst ds]).wp P X = P (.tup ds) := (rfl)
@[simp ↓] theorem p_tupT (ds : List D) : (tupO [.tup ds]).wp P X = P (.tup ds) := (rfl)
@[simp ↓] theorem p_lstL (ds : List D) : (lstO [.lst ds]).wp P X = P (.lst ds) := (rfl)
@[simp ↓] theorem p_lstT (ds : List D) : (lstO [.tup ds]).wp P X = P (.lst ds) := (rfl)
@[simp ↓] theorem p_int : (intO [.int a]).wp P X = P (.int a) := (rfl)
@[simp ↓] theorem p_min : (min2O [.int a, .int b]).wp P X = P (.int (if b < a then b else a)) := (rfl)
@[simp ↓] theorem p_max : (max2O [.int a, .int b]).wp P X = P (.int (if b > a then b else a)) := (rfl)
@[simp ↓] theorem p_rev (ds : List D) : (revO (.lst ds)).wp P X = P (.lst ds.reverse) := (rfl)
@[simp ↓] theorem p_slL (ds : List D) (lo hi : Option Int) : (sliceO (.lst ds) lo hi).wp P X = P (.lst (cutD ds lo hi)) := (rfl)
@[simp ↓] theorem p_slT (ds : List D) (lo hi : Option Int) : (sliceO (.tup ds) lo hi).wp P X = P (.tup (cutD ds lo hi)) := (rfl)
@[simp ↓] theorem p_cat (as bs : List D) : (catO (.lst as) (.lst bs)).wp P X = if as.length + bs.length ≤ 100000 then P (.lst (as ++ bs)) else False := by
  show (if as.length + bs.length ≤ 100000 then Out.ok (D.lst (as ++ bs)) else .bad).wp P X = _
  rw [wp_ite]; rfl
@[simp ↓] theorem p_addL (as bs : List D) : (addO (.lst as) (.lst bs)).wp P X = if as.length + bs.length ≤ 100000 then P (.lst (as ++ bs)) else False := by
  show (if as.length + bs.length ≤ 100000 then Out.ok (D.lst (as ++ bs)) else .bad).wp P X = _
  rw [wp_ite]; rfl
@[simp ↓] theorem p_addT (as bs : List D) : (addO (.tup as) (.tup bs)).wp P X = if as.length + bs.length ≤ 100000 then P (.tup (as ++ bs)) else False := by
  show (if as.length + bs.length ≤ 100000 then Out.ok (D.tup (as ++ bs)) else .bad).wp P X = _
  rw [wp_ite]; rfl
@[simp ↓] theorem p_walkL {PL : List D → Prop} (ds : List D) : (walked (.lst ds)).wp PL X = PL ds := (rfl)
@[simp ↓] theorem p_walkT {PL : List D → Prop} (ds : List D) : (walked (.tup ds)).wp PL X = PL ds := (rfl)
@[simp ↓] theorem p_walkS {PL : List D → Prop} (ns : List Int) : (walked (.scr ns)).wp PL X = PL (ns.map D.int) := (rfl)
/-! ### indices -/
theorem atI_nat {α : Type} (xs : List α) (i : Nat) : L2.atI xs (i : Int) = xs[i]? := by
  unfold L2.atI L2.ixN
  rw [if_pos (Int.natCast_nonneg i)]
  by_cases h : i < xs.length
  · rw [if_pos (by omega)]; simp
  · rw [if_neg (by omega), List.getElem?_eq_none (by omega)]; rfl
theorem p_ixL {ds : List D} {i : Nat} {d : D} (h : ds[i]? = some d) : (ixO2 (.lst ds) (.int (i : Int))).wp P X = P d := by
  show (match L2.atI ds (i : Int) with | some d => Out.ok d | none => .bad).wp P X = P d
  rw [atI_nat, h]; rfl
theorem p_ixT {ds : List D} {i : Nat} {d : D} (h : ds[i]? = some d) : (ixO2 (.tup ds) (.int (i : Int))).wp P X = P d := by
  show (match L2.atI ds (i : Int) with | some d => Out.ok d | none => .bad).wp P X = P d
  rw [atI_nat, h]; rfl
theorem p_ixL' {ds : List D} {i : Int} (h0 : 0 ≤ i) (h1 : i < ds.length) : (ixO2 (.lst ds) (.int i)).wp P X = P (ds[i.toNat]'(by omega)) := by
  obtain ⟨n, rfl⟩ : ∃ n : Nat, i = n := ⟨i.toNat, by omega⟩
  exact p_ixL (List.getElem?_eq_getElem (by omega))
theorem p_ixT' {ds : List D} {i : Int} (h0 : 0 ≤ i) (h1 : i < ds.length) : (ixO2 (.tup ds) (.int i)).wp P X = P (ds[i.toNat]'(by omega)) := by
  obtain ⟨n, rfl⟩ : ∃ n : Nat, i = n := ⟨i.toNat, by omega⟩
  exact p_ixT (List.getElem?_eq_getElem (by omega))
variable {w x y z : D} {l : List D}
@[simp ↓] theorem p_L0 : (ixO2 (.lst (w :: l)) (.int 0)).wp P X = P w := p_ixL (i := 0) rfl
@[simp ↓] theorem p_L1 : (ixO2 (.lst (w :: x :: l)) (.int 1)).wp P X = P x := p_ixL (i := 1) rfl
@[simp ↓] theorem p_L2 : (ixO2 (.lst (w :: x :: y :: l)) (.int 2)).wp P X = P y := p_ixL (i := 2) rfl
@[simp ↓] theorem p_L3 : (ixO2 (.lst (w :: x :: y :: z :: l)) (.int 3)).wp P X = P z := p_ixL (i := 3) rfl
@[simp ↓] theorem p_T0 : (ixO2 (.tup (w :: l)) (.int 0)).wp P X = P w := p_ixT (i := 0) rfl
@[simp ↓] theorem p_T1 : (ixO2 (.tup (w :: x :: l)) (.int 1)).wp P X = P x := p_ixT (i := 1) rfl
@[simp ↓] theorem p_T2 : (ixO2 (.tup (w :: x :: y :: l)) (.int 2)).wp P X = P y := p_ixT (i := 2) rfl
theorem p_stoL {ds : List D} {i : Nat} {v : D} (h : i < ds.length) : (stoO (.lst ds) (.int (i : Int)) v).wp P X = P (.lst (ds.set i v)) := by
  show (match L2.ixN ds.length (i : Int) with | some j => Out.ok (D.lst (ds.set j v)) | none => .bad).wp P X = _
  unfold L2.ixN
  rw [if_pos (Int.natCast_nonneg i), if_pos (by omega)]
  simp
@[simp ↓] theorem p_S0 {v : D} : (stoO (.lst (w :: l)) (.int 0) v).wp P X = P (.lst (v :: l)) := p_stoL (i := 0) (by simp)
@[simp ↓] theorem p_S1 {v : D} : (stoO (.lst (w :: x :: l)) (.int 1) v).wp P X = P (.lst (w :: v :: l)) := p_stoL (i := 1) (by simp)
@[simp ↓] theorem p_S2 {v : D} : (stoO (.lst (w :: x :: y :: l)) (.int 2) v).wp P X = P (.lst (w :: x :: v :: l)) := p_stoL (i := 2) (by simp)
@[simp ↓] theorem p_S3 {v : D} : (stoO (.lst (w :: x :: y :: z :: l)) (.int 3) v).wp P X = P (.lst (w :: x :: y :: v :: l)) := p_stoL (i := 3) (by simp)
@[simp ↓] theorem p_app {PD : D × List D → Prop} {ds : List D} {v : D} : (appO ds [v]).wp PD X = if ds.length < 100000 then PD (.non, ds ++ [v]) else False := by
  show (if ds.length < 100000 then Out.ok (D.non, ds ++ [v]) else .bad).wp PD X = _
  rw [wp_ite]; rfl
theorem p_pop {PD : D × List D → Prop} {ds : List D} {i : Nat} {d : D} (hi : i < 1000000000) (h : ds[i]? = some d) : (popO ds [.int (i : Int)]).wp PD X = PD (d, ds.eraseIdx i) := by
  obtain ⟨hl, _⟩ := List.getElem?_eq_some_iff.mp h
  show (if -(2 ^ 63) ≤ (i : Int) ∧ (i : Int) < 2 ^ 63 then (match L2.ixN ds.length (i : Int) with
    | some k => (match ds[k]? with
      | some d => Out.ok (d, ds.eraseIdx k)
      | none => .bad)
    | none => .bad) else .bad).wp PD X = _
  rw [if_pos (by omega)]
  unfold L2.ixN
  rw [if_pos (Int.natCast_nonneg i), if_pos (by omega)]
  simp only [Int.toNat_natCast, h]
  rfl
@[simp ↓] theorem p_pop0 {PD : D × List D → Prop} : (popO (w :: l) [.int 0]).wp PD X = PD (w, l) := p_pop (i := 0) (by decide) rfl
@[simp ↓] theorem p_ins {PD : D × List D → Prop} {ds : List D} {v : D} {i : Int} : (insO ds [.int i, v]).wp PD X = if ds.length < 100000 ∧ 0 ≤ i ∧ i < 2 ^ 63 then PD (.non, ds.take i.toNat ++ [v] ++ ds.drop i.toNat) else False := by
  show (if ds.length < 100000 ∧ 0 ≤ i ∧ i < 2 ^ 63 then Out.ok (D.non, ds.take i.toNat ++ [v] ++ ds.drop i.toNat) else .bad).wp PD X = _
  rw [wp_ite]; rfl
/-! ### ranges -/
theorem rgD_len (a b : Int) : (rgD a b).length = (b - a).toNat := by unfold rgD; simp
theorem rgD_nat (n : Nat) : rgD 0 (n : Int) = (List.range n).map fun (i : Nat) => D.int i := by
  unfold rgD
  rw [Int.sub_zero, Int.toNat_natCast]
  congr 1; funext i; simp
theorem p_rng1 {PL : List D → Prop} {n : Nat} (h : n < 1000000000) : (rng1 [.int (n : Int)]).wp PL X = PL ((List.range n).map fun (i : Nat) => D.int i) := by
  unfold rng1
  dsimp only
  rw [if_pos (by omega), wp_ok, Int.toNat_natCast]
theorem rgOk_int {n : Int} (h0 : -1000 ≤ n) (h : n ≤ 16000000) : rgOk 0 n = true := by
  unfold rgOk
  rw [decide_eq_true (show (-1000 : Int) ≤ 0 by omega), decide_eq_true h, decide_eq_true (show (0 : Int) ≤ 16000000 by omega), decide_eq_true h0]
  rfl
theorem rgOk_nat {n : Nat} (h : n ≤ 16000000) : rgOk 0 (n : Int) = true := rgOk_int (by omega) (by omega)
/-! ### tests of types -/
@[simp ↓] theorem p_isT {PB : Bool → Prop} (ds : List D) (T : Ty) : (isD T (.tup ds)).wp PB X = PB (match T with | .tuple => true | _ => false) := by cases T <;> rfl
@[simp ↓] theorem p_isL {PB : Bool → Prop} (ds : List D) (T : Ty) : (isD T (.lst ds)).wp PB X = PB (match T with | .list => true | _ => false) := by cases T <;> rfl
@[simp ↓] theorem p_isI {PB : Bool → Prop} (T : Ty) : (isD T (.int a)).wp PB X = PB (match T with | .int => true | _ => false) := by cases T <;> rfl
@[simp ↓] theorem p_isB {PB : Bool → Prop} (k : Bool) (T : Ty) : (isD T (.bl k)).wp PB X = PB (match T with | .int => true | .bool => true | _ => false) := by cases T <;> rfl
@[simp ↓] theorem p_isNn {PB : Bool → Prop} (T : Ty) : (isD T .non).wp PB X = PB false := by cases T <;> rfl
@[simp ↓] theorem p_isS {PB : Bool → Prop} (s : Str) (T : Ty) : (isD T (.str s)).wp PB X = PB (match T with | .str => true | _ => false) := by cases T <;> rfl
@[simp ↓] theorem p_truL {PB : Bool → Prop} (ds : List D) : (truO (.lst ds)).wp PB X = PB (!ds.isEmpty) := (rfl)
@[simp ↓] theorem p_truT {PB : Bool → Prop} (ds : List D) : (truO (.tup ds)).wp PB X = PB (!ds.isEmpty) := (rfl)
@[simp ↓] theorem p_truB {PB : Bool → Prop} (k : Bool) : (truO (.bl k)).wp PB X = PB k := (rfl)
@[simp ↓] theorem p_truI {PB : Bool → Prop} : (truO (.int a)).wp PB X = PB (a != 0) := (rfl)
/-! ### environments -/
@[simp ↓] theorem outs_nil {PL : List D → Prop} {ρ : Env} : (outs [] ρ).wp PL X = PL [] := (rfl)
@[simp ↓] theorem outs_cons {PL : List D → Prop} {ρ : Env} {i : Nat} {is : List Nat} : (outs (i :: is) ρ).wp PL X = at_ ρ i fun d => (outs is ρ).wp (fun ds => PL (d :: ds)) X := by
  show (match ρ[i]? with | some (some d) => (outs is ρ).bind fun ds => .ok (d :: ds) | _ => .bad).wp PL X = _
  unfold at_
  rcases ρ[i]? with _ | (_ | d)
  · rfl
  · rfl
  · simp only [wp_bind, wp_ok]
@[simp] theorem setAll_nil (ρ : Env) (ds : List D) : setAll ρ [] ds = ρ := by cases ds <;> rfl
@[simp] theorem setAll_cons (ρ : Env) (i : Nat) (is : List Nat) (d : D) (ds : List D) : setAll ρ (i :: is) (d :: ds) = setAll (ρ.set i (some d)) is ds := rfl
/-! ### comparisons -/
/-- laid out, at most k deep -/
def Fl (k : Nat) (d : D) : Prop := (toPy d).canLay0 = true ∧ (toPy d).depth ≤ k
theorem Fl.shp {k : Nat} {d : D} (h : Fl k d) (hk : k ≤ 64 := by decide) : shp d = true := by
  unfold PyD.shp SeqAt.shaped
  rw [h.1, decide_eq_true (Nat.le_trans h.2 hk)]; rfl
theorem Fl.le {k j : Nat} {d : D} (h : Fl k d) (hk : k ≤ j) : Fl j d := ⟨h.1, Nat.le_trans h.2 hk⟩
theorem Fl.int (i : Int) : Fl 0 (.int i) := by unfold Fl toPy; simp [PyData.canLay0, PyData.depth]
theorem Fl.bl (i : Bool) : Fl 0 (.bl i) := by unfold Fl toPy; simp [PyData.canLay0, PyData.depth]
theorem Fl.str (s : Str) (h : PyData.strOk s = true) : Fl 0 (.str s) := by unfold Fl toPy; simp [PyData.canLay0, PyData.depth, h]
theorem Fl.non : Fl 0 .non := by unfold Fl toPy; simp [PyData.canLay0, PyData.depth]
theorem fl_all {k : Nat} : ∀ {ds : List D}, (∀ d ∈ ds, Fl k d) → PyData.canLayAll0 (toPys ds) = true ∧ PyData.depthAll (toPys ds) ≤ k
  | [], _ => by unfold toPys; simp [PyData.canLayAll0, PyData.depthAll]
  | d :: ds, h => by
    obtain ⟨a, b⟩ := h d List.mem_cons_self
    obtain ⟨c, e⟩ := fl_all (ds := ds) fun x hx => h x (List.mem_cons_of_mem _ hx)
    unfold toPys
    simp only [PyData.canLayAll0, PyData.depthAll, a, c, Bool.and_self]
    exact ⟨trivial, by omega⟩
theorem Fl.tup {k : Nat} {ds : List D} (h : ∀ d ∈ ds, Fl k d) : Fl (k + 1) (.tup ds) := by
  obtain ⟨a, b⟩ := fl_all h
  unfold Fl toPy
  simp only [PyData.canLay0, PyData.depth, a]
  exact ⟨trivial, by omega⟩
theorem Fl.lst {k : Nat} {ds : List D} (h : ∀ d ∈ ds, Fl k d) : Fl (k + 1) (.lst ds) := by
  obtain ⟨a, b⟩ := fl_all h
  unfold Fl toPy
  simp only [PyData.canLay0, PyData.depth, a]
  exact ⟨trivial, by omega⟩
theorem Fl.ints (ns : List Int) : ∀ d ∈ ns.map D.int, Fl 0 d := fun d hd => by
  obtain ⟨n, _, rfl⟩ := List.mem_map.mp hd; exact .int n
theorem Fl.tupI (ns : List Int) : Fl 1 (PyD.tupI ns) := Fl.tup (Fl.ints ns)
theorem Fl.tupIs (nss : List (List Int)) : ∀ d ∈ nss.map PyD.tupI, Fl 1 d := fun d hd => by
  obtain ⟨n, _, rfl⟩ := List.mem_map.mp hd; exact .tupI n
theorem eqv_ints : ∀ (a b : List Int), PyData.eqvAll (toPys (a.map D.int)) (toPys (b.map D.int)) = decide (a = b)
  | [], [] => by simp [toPys, PyData.eqvAll]
  | [], _ :: _ => by simp [toPys, PyData.eqvAll]
  | _ :: _, [] => by simp [toPys, PyData.eqvAll]
  | x :: a, y :: b => by
    rw [List.map_cons, List.map_cons]
    unfold toPys toPy
    unfold PyData.eqvAll
    rw [eqv_ints a b]
    unfold PyData.eqv
    by_cases h : x = y <;> simp [h]
theorem eqD_int (a b : Int) : eqD (.int a) (.int b) = decide (a = b) := by
  unfold eqD toPy PyData.eqv
  by_cases h : a = b <;> simp [h]
theorem eqD_tupI (a b : List Int) : eqD (tupI a) (tupI b) = decide (a = b) := by
  unfold eqD tupI toPy PyData.eqv; exact eqv_ints a b
theorem eqD_lstI (a b : List Int) : eqD (.lst (a.map .int)) (.lst (b.map .int)) = decide (a = b) := by
  unfold eqD toPy PyData.eqv; exact eqv_ints a b
theorem p_eq {d e : D} (h1 : shp d = true) (h2 : shp e = true) : (eqO d e).wp P X = P (.bl (eqD d e)) := by
  unfold eqO; rw [if_pos ⟨h1, h2⟩]; rfl
theorem p_ne {d e : D} (h1 : shp d = true) (h2 : shp e = true) : (neO d e).wp P X = P (.bl (!eqD d e)) := by
  unfold neO; rw [if_pos ⟨h1, h2⟩]; rfl
@[simp ↓] theorem p_eqI : (eqO (.int a) (.int b)).wp P X = P (.bl (decide (a = b))) := by rw [p_eq (Fl.int a).shp (Fl.int b).shp, eqD_int]
@[simp ↓] theorem p_neI : (neO (.int a) (.int b)).wp P X = P (.bl (!decide (a = b))) := by rw [p_ne (Fl.int a).shp (Fl.int b).shp, eqD_int]
@[simp ↓] theorem p_eqT (a b : List Int) : (eqO (tupI a) (tupI b)).wp P X = P (.bl (decide (a = b))) := by rw [p_eq (Fl.tupI a).shp (Fl.tupI b).shp, eqD_tupI]
@[simp ↓] theorem p_neT (a b : List Int) : (neO (tupI a) (tupI b)).wp P X = P (.bl (!decide (a = b))) := by rw [p_ne (Fl.tupI a).shp (Fl.tupI b).shp, eqD_tupI]
theorem p_eqL (a b : List Int) : (eqO (.lst (a.map .int)) (.lst (b.map .int))).wp P X = P (.bl (decide (a = b))) := by rw [p_eq (Fl.lst (Fl.ints a)).shp (Fl.lst (Fl.ints b)).shp, eqD_lstI]
theorem any_tupI (a : List Int) (nss : List (List Int)) : ((nss.map tupI).any fun z => eqD z (tupI a)) = decide (a ∈ nss) := by
  induction nss with
  | nil => simp
  | cons n nss ih =>
    rw [List.map_cons, List.any_cons, ih, eqD_tupI]
    by_cases h : n = a
    · simp [h]
    · have : ¬ a = n := fun e => h e.symm
      simp [h, this]
theorem p_inL (a : List Int) (nss : List (List Int)) : (inO2 (tupI a) (.lst (nss.map tupI))).wp P X = P (.bl (decide (a ∈ nss))) := by
  show (if shp (tupI a) = true ∧ shp (.lst (nss.map tupI)) = true then Out.ok (D.bl ((nss.map tupI).any fun z => eqD z (tupI a))) else .bad).wp P X = _
  rw [if_pos ⟨(Fl.tupI a).shp, (Fl.lst (Fl.tupIs nss)).shp⟩, any_tupI]; rfl
theorem p_notInL (a : List Int) (nss : List (List Int)) : (notInO2 (tupI a) (.lst (nss.map tupI))).wp P X = P (.bl (!decide (a ∈ nss))) := by
  show ((if shp (tupI a) = true ∧ shp (.lst (nss.map tupI)) = true then Out.ok (D.bl ((nss.map tupI).any fun z => eqD z (tupI a))) else .bad).bind fun d => match d with
    | .bl k => .ok (.bl (!k))
    | _ => .bad).wp P X = _
  rw [if_pos ⟨(Fl.tupI a).shp, (Fl.lst (Fl.tupIs nss)).shp⟩, any_tupI]; rfl
end
end PyD

set_option Elab.async false
set_option linter.all false
set_option maxRecDepth 100000
/-! raise, by data. -/
namespace L2X
open PySem PySem.Spec PyProof.Rows L2
/-- C(), C an own class of errors without an __init__ of its own -/
theorem pmk_own0 {X : Cx} {C : Addr} {bmB : List Value} {B newId initId : String} {x : Str} {p pos : Pos} (F : ExcBaseFacts B newId initId bmB) (q : PySem.W.excIn X.K C bmB newId = true) (gC : X.mg x = some (.ref C))
    (kC : PySem.W.keepIn X.K (.ref C) = true) (r : Raises X (.ref C)) (hg : Gl X x) (hdb : (x == ("__debug__" : Str)) = false := by decide) : PMk X (.Call (.Name x p) [] [] pos) (fun _ H Q => Q (.ref C) none H) := by
  intro pins s σ H Q I h
  refine wpAny_Call_Name_kw (ld_glob I hg gC ?_ hdb)
  refine PySem.W.callWith_K0 I.kIn kC ?_
  show wpAny _ _ (call (.ref C) []) _ _ _
  obtain ⟨bm, N, nm, qn, bs, hdct, sn, sub, ab, col, dd, k0, k1, k2, k3, k5, mN, hC, hN, hni, T⟩ := exc_obj I.kIn q
  refine wpAny_call_exc_subT F T hC hN hni (fun h' e hm => ?_) (Nat.zero_le _)
  exact mk_of I hm r h (I.hok.gone hm.new)
end L2X
namespace PyD
open PySem L2 L2X PyProof.Rows
section
variable {ι : Type} {C : Ctx ι} {B : Base} {F H : Hp} {μ μ' μL : List Md} {σ : L2.St} {ρ : Env} {rm : Md} {e : Expr} {es : List Expr} {pos p : Pos} {x : Str}
/-- what may be raised from here on -/
abbrev Thrown (C : Ctx ι) (B : Base) (Q : XK) (x : Exc) : Prop := ∀ cls d F2 H2, Bx B F2 H2 → XAt C.g F2 H2 x cls d → Q cls d H2
/-- an expression that makes an exception -/
def DM (C : Ctx ι) (μ : List Md) (e : Expr) (m : Env → Out (Exc × Env)) : Prop :=
  ∃ t : L2.St → Hp → XK → Prop, (∀ j, PMk (C.X j) e t) ∧ ∀ B F H ρ σ (Q : XK), Rel C.g B F H μ ρ σ → Post C B F H μ σ (m ρ) (fun x _ _ _ => Thrown C B Q x) → t σ H Q
def M.raise (m : Env → Out (Exc × Env)) : Env → SOut := fun ρ => (m ρ).then fun p => .exc p.1
theorem ds_raise (ok : C.Ok) {m : Env → Out (Exc × Env)} (h : DM C μ e m) : DS C rm μL μ (.Raise (some e) none pos) μ' (M.raise m) := by
  obtain ⟨t, p, s⟩ := h
  exact ⟨_, fun j => ps_raise (ok.calm j) (ok.tk j) (p j), fun B F H ρ σ D hp R h => s B F H ρ σ _ R ((SPost.of h).imp fun x ρ1 F1 H1 R1 S1 k cls d F2 H2 b xa => k cls d F2 H2 σ b xa)⟩

/-! ### a class of errors without an __init__ of its own -/
structure ExN (g : G) (c : Str) : Prop where
  q : PySem.W.excIn g.K (g.cA c) [.type "ValueError", .type "Exception", .type "BaseException", .type "object"] "ValueError.__new__" = true
  mg : g.mg c = some (.ref (g.cA c))
  kp : PySem.W.keepIn g.K (.ref (g.cA c)) = true
  r1 : PySem.W.subIn g.K (.ref (g.cA c)) (.type "BaseException") = some true
  r2 : PySem.W.typeIn g.K (.ref (g.cA c)) = some (.type "type")
def M.mk0 (c : Str) : Env → Out (Exc × Env) := fun ρ => .ok (⟨c, []⟩, ρ)
theorem Bx.xat0 {g : G} {c : Str} (b : Bx B F H) : XAt g F H ⟨c, []⟩ (.ref (g.cA c)) none := ⟨rfl, .inl ⟨rfl, rfl⟩⟩
theorem dm_own0 (ok : C.Ok) {c : Str} (E : ExN C.g c) (hg : glB C.sc c = true := by kernel_rfl!) (hdb : (c == ("__debug__" : Str)) = false := by decide) : DM C μ (.Call (.Name c p) [] [] pos) (M.mk0 c) := by
  refine ⟨_, fun j => pmk_own0 PySem.F.excBase_ValueError (by rw [ok.hK j]; exact E.q) (by rw [ok.hm j]; exact E.mg) (by rw [ok.hK j]; exact E.kp) (raises_own (by rw [ok.hK j]; exact E.r1) (by rw [ok.hK j]; exact E.r2)) (gl ok hg j) hdb, fun B F H ρ σ Q R h => ?_⟩
  exact h.now R _ _ F H R.toBx (Bx.xat0 R.toBx)
def M.mkA (c : Str) (ms : Env → Out (List D × Env)) : Env → Out (Exc × Env) := fun ρ => (ms ρ).bind fun p => if p.1.length ≤ 1000 then .ok (⟨c, []⟩, p.2) else .bad
theorem dm_ownA (ok : C.Ok) {c : Str} (E : ExN C.g c) {ms : Env → Out (List D × Env)} (ha : DA C μ (e :: es) ms) (hg : glB C.sc c = true := by kernel_rfl!) (hdb : (c == ("__debug__" : Str)) = false := by decide)
    (he : ∀ j, starEach (e :: es) (C.X j).env = (false, eval e (C.X j).env) :: starEach es (C.X j).env := by intro _; rfl) (hpl : ∀ j, (backTo pos (starEach es (C.X j).env)).any (·.1) = false := by intro _; rfl) : DM C μ (.Call (.Name c p) (e :: es) [] pos) (M.mkA c ms) := by
  obtain ⟨t, pa, s⟩ := ha
  refine ⟨_, fun j => pmk_ownA PySem.F.excBase_ValueError (by rw [ok.hK j]; exact E.q) (by rw [ok.hm j]; exact E.mg) (by rw [ok.hK j]; exact E.kp) (raises_own (by rw [ok.hK j]; exact E.r1) (by rw [ok.hK j]; exact E.r2)) (gl ok hg j) (pa j) hdb (he j) (hpl j), fun B F H ρ σ Q R h => ?_⟩
  refine s B F H ρ σ _ R ((Post.bnd h).imp fun ds ρ1 F1 H1 R1 S1 k vs hv => ?_)
  by_cases q : ds.length ≤ 1000
  · rw [if_pos q] at k
    exact ⟨by rw [hv.length, sizeLine_eq]; omega, k.now R1 _ _ F1 H1 R1.toBx (Bx.xat0 R1.toBx)⟩
  · rw [if_neg q] at k; exact k.elim

/-- what an __init__ of two fields promises -/
def spIni (cA : Addr) (ps : List Str) : Sp := fun vs H Q _ => ∃ a ws, vs = .ref a :: ws ∧ ws.length = ps.length ∧ H a = some (exo a cA none) ∧
      ∀ (d : Addr) fs H2, (∀ b o, b ≠ a → H b = some o → H2 b = some o) → H2 a = some (exo a cA (some d)) → H2 d = some (exd d fs) → H d = none → d ≠ a → (∀ f, fs.lookup f = (ps.zip ws).lookup f) → Q .non H2
/-! ### a class of errors whose __init__ stores its parameters -/
structure ExI (g : G) (c : Str) (ps : List Str) : Prop where
  T : OexC g.K (g.cA c)
  mg : g.mg c = some (.ref (g.cA c))
  ini : ∃ (f : Addr) (fd : FuncData), PySem.W.findIn g.K (.ref (g.cA c)) "__init__" = some (some (.ref f)) ∧ PySem.W.typeIn g.K (.ref f) = some (.type "function") ∧ Binds g.K fd ("self" :: ps) [] ∧
    FnOk g.P g.w g.K g.mg g.base (L2.CX g.P g.w) 1 f fd ("self" :: ps) (spIni (g.cA c) ps)
def M.mkI (c : Str) (ps : List Str) (ms : Env → Out (List D × Env)) : Env → Out (Exc × Env) := fun ρ => (ms ρ).bind fun p => if p.1.length = ps.length ∧ p.1.length ≤ 1000 then .ok (⟨c, ps.zip p.1⟩, p.2) else .bad
theorem lookup_zip {g : G} {F : Hp} {f : Str} {e : D} : ∀ {ps : List Str} {ds : List D} {ws : List V}, IsAll g F ws ds → (ps.zip ds).lookup f = some e → ∃ v, (ps.zip ws).lookup f = some v ∧ Is g F v e
  | [], _, _, _, h => by simp at h
  | _ :: _, [], _, _, h => by simp at h
  | p :: ps, d :: ds, _, .cons r t, h => by
    rw [List.zip_cons_cons, List.lookup_cons] at h ⊢
    cases q : f == p with
    | true => rw [q] at h; cases h; exact ⟨_, rfl, r⟩
    | false => rw [q] at h; exact lookup_zip t h
theorem Bx.grow {H2 : Hp} (b : Bx B F H) (k : ∀ a o, H a = some o → H2 a = some o) : Bx B F H2 where
  sub := b.sub.trans k
  ext := b.ext
  keep := fun a o e n => k a o (b.keep a o e n)
  old := b.old
  aa := fun a e => by
    obtain ⟨o, h⟩ := b.aa a e
    exact ⟨o, k a o h⟩
theorem dm_init (ok : C.Ok) {c : Str} {ps : List Str} (E : ExI C.g c ps) (hlv : 2 ≤ C.lv) {ms : Env → Out (List D × Env)} (ha : DA C μ (e :: es) ms) (hg : glB C.sc c = true := by kernel_rfl!) (hdb : (c == ("__debug__" : Str)) = false := by decide)
    (he : ∀ j, starEach (e :: es) (C.X j).env = (false, eval e (C.X j).env) :: starEach es (C.X j).env := by intro _; rfl) (hpl : ∀ j, (backTo pos (starEach es (C.X j).env)).any (·.1) = false := by intro _; rfl) : DM C μ (.Call (.Name c p) (e :: es) [] pos) (M.mkI c ps ms) := by
  obtain ⟨t, pa, s⟩ := ha
  obtain ⟨f, fd, i1, i2, i3, i4⟩ := E.ini
  refine ⟨tMkO (C.g.cA c) (spIni (C.g.cA c) ps) [] t, fun j => ?_, fun B F H ρ σ Q R h => ?_⟩
  · refine pmk_oex (X := C.X j) (C := C.g.cA c) (k := 1) (CX := L2.CX (C.X j).prog (C.X j).w) (dvs := []) (ds := []) (by rw [ok.hK j]; exact E.T) (by rw [ok.hK j]; exact i1) (by rw [ok.hK j]; exact i2) (by rw [ok.hP j, ok.hw j, ok.hK j, ok.hm j, ok.hb j]; exact i4) ((ok.room j).mono hlv) (by rw [ok.hK j]; exact i3) .nil (fun pins σ H s e s' I x => ?_) (gl ok hg j) (by rw [ok.hm j]; exact E.mg) (pa j) hdb (he j) (hpl j)
    obtain ⟨_, _, _, _, _, _, _, _, _, _, _, _, z⟩ := x
    exact z.elim
  · refine s B F H ρ σ _ R ((Post.bnd h).imp fun ds ρ1 F1 H1 R1 S1 k vs hv => ?_)
    by_cases q : ds.length = ps.length ∧ ds.length ≤ 1000
    · rw [if_pos q] at k
      refine ⟨by rw [hv.length]; exact q.2, fun a ha => ⟨a, vs ++ [], rfl, by rw [List.append_nil, hv.length]; exact q.1, upd_same, fun d fs H2 h1 h2 h3 h4 h5 h6 => ⟨rfl, d, fs, h2, h3, ?_, ?_⟩⟩⟩
      · rw [upd_ne h5] at h4; exact h4
      · have hd : H1 d = none := by rw [upd_ne h5] at h4; exact h4
        have gr : ∀ b o, H1 b = some o → (upd (del H2 a) d (.xd fs)) b = some o := fun b o e => by
          have n1 : b ≠ a := ne_of_none e ha
          rw [upd_ne (ne_of_none e hd), del_ne n1]
          exact h1 b o n1 (by rw [upd_ne n1]; exact e)
        refine k.now R1 _ _ F1 _ (R1.toBx.grow gr) ⟨rfl, .inr ⟨d, fs, rfl, upd_same, fun f e hf => ?_⟩⟩
        rw [h6 f, List.append_nil]
        exact lookup_zip hv hf
    · rw [if_neg q] at k; exact k.elim
end
theorem ini_2 {P : Program} {w : World} {K : PySem.W.Frag} {mg : Str → Option Value} {base : Heap} {x qual : Str} {st : Stmt} {f : Addr} {fd : FuncData} {f1 f2 : Str} {cA : Addr} (F : Fun K x qual st f fd) (T : OexC K cA) (n1 : PySem.W.findIn K (.ref cA) f1 = some none) (n2 : PySem.W.findIn K (.ref cA) f2 = some none) (hne : f1 ≠ f2)
    (hb : ∀ cdv A outer s H E, PSs (cxOf (L2.CX P w) P w K mg base ["self", f1, f2] qual (defScope st) f cdv A outer s H E) (defBody st) (tSeq (tOst K f1 (tVar 0) (tVar 1)) (tOst K f2 (tVar 0) (tVar 2)))) (hs : scB ["self", f1, f2] ["self", f1, f2] (defScope st) = true) : FnOk P w K mg base (L2.CX P w) 1 f fd ["self", f1, f2] (spIni cA [f1, f2]) := by
  refine F.okX (fnScope_by hs) (fun vs H Q E h => ?_) fun cdv A outer s H vs Q E hr h => ⟨_, hb cdv A outer s H E, ?_⟩
  · obtain ⟨a, ws, rfl, hl, _⟩ := h
    rw [List.length_cons, hl]; rfl
  · obtain ⟨a, ws, rfl, hl, ha, k⟩ := h
    match ws, hl with
    | [v1, v2], _ =>
      refine ⟨v1, rfl, .ref a, rfl, a, cA, rfl, T, n1, .inl ⟨ha, fun dx hdx hn => ⟨v2, rfl, .ref a, rfl, a, cA, rfl, T, n2, .inr ⟨dx, _, upd_same, by rw [upd_ne hn, upd_same], by simp, ?_⟩⟩⟩⟩
      refine k dx _ _ (fun b o hb e => ?_) (by rw [upd_ne (Ne.symm hn), upd_same]) upd_same hdx hn fun g => ?_
      · have n : b ≠ dx := ne_of_none e hdx
        rw [upd_ne n, upd_ne hb, upd_ne n]; exact e
      · show List.lookup g [(f2, v2), (f1, v1)] = List.lookup g [(f1, v1), (f2, v2)]
        rw [lookup_put, lookup_put, lookup_put, lookup_put]
        by_cases g2 : g = f2
        · rw [if_pos g2, if_neg (fun z => hne (z.symm.trans g2)), if_pos g2]
        · rw [if_neg g2, if_neg g2]
theorem ini_1 {P : Program} {w : World} {K : PySem.W.Frag} {mg : Str → Option Value} {base : Heap} {x qual : Str} {st : Stmt} {f : Addr} {fd : FuncData} {f1 : Str} {cA : Addr} (F : Fun K x qual st f fd) (T : OexC K cA) (n1 : PySem.W.findIn K (.ref cA) f1 = some none)
    (hb : ∀ cdv A outer s H E, PSs (cxOf (L2.CX P w) P w K mg base ["self", f1] qual (defScope st) f cdv A outer s H E) (defBody st) (tOst K f1 (tVar 0) (tVar 1))) (hs : scB ["self", f1] ["self", f1] (defScope st) = true) : FnOk P w K mg base (L2.CX P w) 1 f fd ["self", f1] (spIni cA [f1]) := by
  refine F.okX (fnScope_by hs) (fun vs H Q E h => ?_) fun cdv A outer s H vs Q E hr h => ⟨_, hb cdv A outer s H E, ?_⟩
  · obtain ⟨a, ws, rfl, hl, _⟩ := h
    rw [List.length_cons, hl]; rfl
  · obtain ⟨a, ws, rfl, hl, ha, k⟩ := h
    match ws, hl with
    | [v1], _ =>
      refine ⟨v1, rfl, .ref a, rfl, a, cA, rfl, T, n1, .inl ⟨ha, fun dx hdx hn => ?_⟩⟩
      refine k dx [(f1, v1)] _ (fun b o hb e => ?_) upd_same (by rw [upd_ne hn, upd_same]) hdx hn fun g => rfl
      have n : b ≠ dx := ne_of_none e hdx
      rw [upd_ne hb, upd_ne n]; exact e
end PyD

set_option Elab.async false
set_option linter.all false
set_option maxRecDepth 100000
/-! try: several clauses, each perhaps with a name; every suite returns. -/
namespace L2X
open PySem PySem.Spec PyProof.Rows L2
/-- one clause: its class, the slot of its name, its suite -/
structure Cls1 where
  c : Value
  i : Option Nat
  ts : Addr → Value → Option Addr → TS
def only (D : Ends) : Ends := { nx := fun _ _ => False, rt := D.rt, bk := fun _ _ => False, ct := fun _ _ => False }
def named (i : Option Nat) (a : Addr) (σ : L2.St) : L2.St := match i with
  | some i => σ.set i (some (.ref a))
  | none => σ
def wAll (K : PySem.W.Frag) (n : Nat) (Wout : WX) (D : Ends) : List Cls1 → WX
  | [] => Wout
  | k :: r => fun cls d σ H => ∃ b, PySem.W.exmOne K cls k.c = some b ∧ (b = true → ∀ a, H a = none → σ.length = n → k.ts a cls d (only D) (named k.i a σ) H) ∧ (b = false → wAll K n Wout D r cls d σ H)
inductive ClsOk (X : Cx) : List ExceptHandler → List Cls1 → Prop
  | nil : ClsOk X [] []
  | bare {x : Str} {c : Value} {ts : Addr → Value → Option Addr → TS} {b₀ : Stmt} {suite : List Stmt} {np pos' : Pos} {hds : List ExceptHandler} {l : List Cls1} (hc : Names X x c)
      (hsu : ∀ (a : Addr) (oe : Obj) (cls : Value) (d : Option Addr) (pn : List (Addr × Obj)), Zc cls d oe → (∃ vs, oe.data = .fields vs) → PSs (X.suite a ((a, oe) :: pn)) (b₀ :: suite) (ts a cls d)) (r : ClsOk X hds l) :
      ClsOk X (.ExceptHandler (some (.Name x np)) none (b₀ :: suite) pos' :: hds) (⟨c, none, ts⟩ :: l)
  | as {x n : Str} {i : Nat} {c : Value} {ts : Addr → Value → Option Addr → TS} {b₀ : Stmt} {suite : List Stmt} {np pos' : Pos} {hds : List ExceptHandler} {l : List Cls1} (hi : X.N[i]? = some n) (hln : X.env.kindOf n = some .local) (hc : Names X x c)
      (hsu : ∀ (a : Addr) (oe : Obj) (cls : Value) (d : Option Addr) (pn : List (Addr × Obj)), Zc cls d oe → (∃ vs, oe.data = .fields vs) → PSs (X.suite a ((a, oe) :: pn)) (b₀ :: suite) (ts a cls d)) (r : ClsOk X hds l) :
      ClsOk X (.ExceptHandler (some (.Name x np)) (some n) (b₀ :: suite) pos' :: hds) (⟨c, some i, ts⟩ :: l)
section
variable {X : Cx} {body : List Stmt} {h₀ : ExceptHandler} {hds : List ExceptHandler} {l : List Cls1} {pos : Pos} {tb : WX → TS} {Wout : WX}
theorem ps_try_all (hs : X.stack = X.env :: X.outer) (hf : X.env.frame = some X.env.locals) (hN : X.N.Nodup) (tk : Takes X Wout)
    (hb : ∀ (W : WX) (pn : List (Addr × Obj)) (xe : Value → Shared → Prop), Takes (X.tr pn xe) W → PassesOwn (model X.prog X.w) X.A X.env xe → PSs (X.tr pn xe) body (tb W)) (hh : ClsOk X (h₀ :: hds) l) :
    PS X (.Try body (h₀ :: hds) [] [] pos) (fun D σ H => tb (wAll X.K X.N.length Wout D l) D σ H) := by
  refine ⟨fun pins s σ H D I h => ?_⟩
  have ok := I.ok
  have hfr : X.A.frames = some (X.env :: X.outer) := by rw [ok.frames, hs]
  refine wpAny_Try_except ?_
  refine wpAny_mono ((hb (wAll X.K X.N.length Wout D l) (X.pn ++ pins) (fun e s₁ => wpAny (model X.prog X.w) X.A (noteFrame e X.env) (fun _ s₂ => wpAny (model X.prog X.w) X.A (setFlight e none) (fun _ s₃ =>
      wpAny (model X.prog X.w) X.A (handleBy e X.env (h₀ :: hds)) (SP X pins D) X.xe s₃) X.xe s₂) X.xe s₁) (fun u s' xx => ?_) PassesOwn.looking).run [] s σ H D (I.toTry _) h) (fun f s1 hsp => ?_) (fun e s1 he => he)
  · obtain ⟨a, B, sI, pins', σ', H', cls, d, rfl, J', nb, up, sky, na, os, ag, w⟩ := xx
    have J : Inv X pins σ' H' sI := J'.ofTry ok
    have sky' : Sky B (X.env :: X.outer) a (Zc cls d) X.env.locals s'.heap := by rw [← hs]; exact sky
    show wpAny (model X.prog X.w) X.A (noteFrame (.ref a) X.env) _ _ _
    refine Sky.land Zc.steady hfr hf sky' fun h3 fl3 up3 => ?_
    have J3 : Inv X pins σ' H' { s' with heap := h3 } := J.landed nb fl3.1 (up.trans up3) os ag
    obtain ⟨oe3, vs3, he3, hz3, hd3⟩ := fl3.there
    have nfr : a ∉ frs (X.env :: X.outer) := fun hm => by
      obtain ⟨_, o', e', hnf⟩ := fl3.2.2.1.mem hm
      rw [he3] at e'; cases e'
      exact hnf _ hd3
    have nL : a ≠ X.env.locals := fun z => nfr (List.mem_filterMap.mpr ⟨X.env, List.mem_cons_self, by rw [hf, z]⟩)
    have nF : a ∉ X.fs := fun hm => by
      obtain ⟨e, he, q⟩ := List.mem_filterMap.mp hm
      exact nfr (List.mem_filterMap.mpr ⟨e, List.mem_cons_of_mem _ he, q⟩)
    have S3 := J3.suite he3 hd3 na nL nF
    have LT : PySem.W.Looks (model X.prog X.w) h3 (typeOf (.ref a)) cls := fun A Q E s k q => wpAny_typeOf_ref (k _ _ he3) (by rw [hz3.1]; exact q)
    have test : ∀ {x : Str} {c : Value} {np : Pos} {Q : Value → Shared → Prop} {E : Value → Shared → Prop}, Names X x c → Q c { s' with heap := h3 } → wpAny (model X.prog X.w) (X.A.mark (some (.ref a))) (eval (.Name x np) X.env) Q E { s' with heap := h3 } := fun {x c np Q E} hc q => by
      obtain ⟨hg, hdbg, hm | ⟨hm, hv, hnn⟩⟩ := hc
      · exact ld_glob (X := X.suite a ((a, oe3) :: (X.pn ++ pins))) S3 hg hm q hdbg
      · exact ld_blt (X := X.suite a ((a, oe3) :: (X.pn ++ pins))) S3 hg hm hv q hnn hdbg
    have go : ∀ {hds' : List ExceptHandler} {l' : List Cls1}, ClsOk X hds' l' → wAll X.K X.N.length Wout D l' cls d σ' H' → wpAny (model X.prog X.w) X.A (handleBy (.ref a) X.env hds') (SP X pins D) X.xe { s' with heap := h3 } := by
      intro hds' l' hk
      induction hk with
      | nil =>
        intro w
        refine wpAny_handleBy_nil ?_
        obtain ⟨k1, k2, k3, oe, vs, T, oT, ts', he, hz, hd, h1, hr⟩ := id fl3
        unfold PySem.passOn
        refine wpAny_bind (wpAny_field he hd h1 ?_)
        rw [if_neg (show ¬ ((Value.ref T == Value.none) = true) from by simp)]
        have fin : wpAny (model X.prog X.w) X.A (setFlight (.ref a) X.env.frame) (fun _ s4 => wpAny (model X.prog X.w) X.A (throw (.ref a) : Sem Flow) (SP X pins D) X.xe s4) X.xe { s' with heap := h3 } := by
          rw [hf]
          refine HandSPX.setFlight_upZ fl3 fun h4 hh4 up4 => wpAny_throw (tk _ _ ?_)
          exact ⟨a, B, sI, pins, σ', H', cls, d, rfl, J, nb, (up.trans up3).trans up4, .inr (.inr (by rw [hs]; exact hh4)), na, os, ag, w⟩
        first
          | exact wpAny_bind (wpAny_pure (wpAny_bind fin))
          | exact wpAny_bind fin
      | @bare x c ts b₀ suite np pos' hds2 l2 hc hsu r ih =>
        intro w
        obtain ⟨b, hb1, hyes, hno⟩ := w
        refine wpAny_handleBy_cons (codeAny_handlers_test ?_) (by intro q; cases q)
        refine test hc ((PySem.W.exm_one (M := model X.prog X.w) (J3.kIn) LT hb1).here ?_)
        cases b with
        | true =>
          refine codeAny_handlers_suite ?_
          refine HandSPX.lands_againZ fl3 fun h4 fl4 up4 => ?_
          obtain ⟨oe4, vs4, he4, hz4, hd4⟩ := fl4.there
          have J4 : Inv X pins σ' H' { s' with heap := h4 } := J.landed nb fl4.1 ((up.trans up3).trans up4) os ag
          have S4 := J4.suite he4 hd4 na nL nF
          refine wpAny_mono ((hsu a oe4 cls d (X.pn ++ pins) hz4 ⟨_, hd4⟩).run [] _ _ H' _ S4 (hyes rfl a na J.len)) (fun f s6 hsp => ?_) (fun _ _ z => False.elim z)
          cases f with
          | next => obtain ⟨σ6, H6, S6, q6⟩ := hsp; exact q6.elim
          | brk => obtain ⟨σ6, H6, S6, q6⟩ := hsp; exact q6.elim
          | cont => obtain ⟨σ6, H6, S6, q6⟩ := hsp; exact q6.elim
          | ret u => obtain ⟨v6, σ6, H6, S6, r6, q6⟩ := hsp; exact ⟨_, _, _, S6.unsuite ok, r6, q6⟩
        | false =>
          show wpAny _ X.A (handleBy (.ref a) X.env hds2) _ _ _
          exact ih (hno rfl)
      | @as x n i c ts b₀ suite np pos' hds2 l2 hi hln hc hsu r ih =>
        intro w
        obtain ⟨b, hb1, hyes, hno⟩ := w
        refine wpAny_handleBy_cons (codeAny_handlers_test ?_) (by intro q; cases q)
        refine test hc ((PySem.W.exm_one (M := model X.prog X.w) (J3.kIn) LT hb1).here ?_)
        cases b with
        | true =>
          refine codeAny_handlers_suite_as ?_
          refine HandSPX.lands_againZ fl3 fun h4 fl4 up4 => ?_
          obtain ⟨oe4, vs4, he4, hz4, hd4⟩ := fl4.there
          have J4 : Inv X pins σ' H' { s' with heap := h4 } := J.landed nb fl4.1 ((up.trans up3).trans up4) os ag
          have S4 := J4.suite he4 hd4 na nL nF
          refine store_ok (X := X.suite a ((a, oe4) :: (X.pn ++ pins))) (v := .ref a) S4 hN hi (.inl hln) rfl (fun s5 S5 => ?_) (.inr hln)
          refine wpAny_mono ((hsu a oe4 cls d (X.pn ++ pins) hz4 ⟨_, hd4⟩).run [] s5 _ H' _ S5 (hyes rfl a na J.len)) (fun f s6 hsp => ?_) (fun _ _ z => False.elim z)
          cases f with
          | next => obtain ⟨σ6, H6, S6, q6⟩ := hsp; exact q6.elim
          | brk => obtain ⟨σ6, H6, S6, q6⟩ := hsp; exact q6.elim
          | cont => obtain ⟨σ6, H6, S6, q6⟩ := hsp; exact q6.elim
          | ret u => obtain ⟨v6, σ6, H6, S6, r6, q6⟩ := hsp; exact gone_ok (S6.unsuite ok) hN hi hln fun s7 J7 => ⟨_, _, _, J7, r6, q6⟩
        | false =>
          show wpAny _ X.A (handleBy (.ref a) X.env hds2) _ _ _
          exact ih (hno rfl)
    exact go hh w
  · cases f with
    | next => obtain ⟨σ', H', J', q⟩ := hsp; exact wpAny_execs_nil ⟨σ', H', J'.ofTry ok, q⟩
    | brk => obtain ⟨σ', H', J', q⟩ := hsp; exact ⟨σ', H', J'.ofTry ok, q⟩
    | cont => obtain ⟨σ', H', J', q⟩ := hsp; exact ⟨σ', H', J'.ofTry ok, q⟩
    | ret u => obtain ⟨v, σ', H', J', r, q⟩ := hsp; exact ⟨v, σ', H', J'.ofTry ok, r, q⟩
end
end L2X

set_option Elab.async false
set_option linter.all false
set_option maxRecDepth 100000
/-! try, by data: what an except suite returns of the error that it caught. -/
namespace PyD
open PySem L2 L2X PyProof.Rows
section
variable {ι : Type} {C : Ctx ι} {B : Base} {F H F' H' F2 H2 : Hp} {μ μ' μL : List Md} {σ : L2.St} {ρ : Env} {rm : Md} {e e1 e2 c1 c2 : Expr} {es : List Expr} {pos p q q2 : Pos} {x : Str} {i : Option Nat}
/-- only new objects -/
structure Gw (B : Base) (F H F' H' : Hp) : Prop where
  b : Bx B F' H'
  f : Le F F'
  h : Le H H'
theorem Gw.refl (b : Bx B F H) : Gw B F H F H := ⟨b, Le.refl _, Le.refl _⟩
theorem Gw.trans (a : Gw B F H F' H') (b : Gw B F' H' F2 H2) : Gw B F H F2 H2 := ⟨b.b, a.f.trans b.f, a.h.trans b.h⟩
theorem XAt.gw {g : G} {x : Exc} {cls : Value} {d : Option Addr} (h : XAt g F H x cls d) (w : Gw B F H F' H') : XAt g F' H' x cls d := by
  obtain ⟨h1, h2⟩ := h
  refine ⟨h1, ?_⟩
  rcases h2 with h2 | ⟨dx, fs, h2, h3, h4⟩
  · exact .inl h2
  · exact .inr ⟨dx, fs, h2, w.h _ _ h3, fun f e he => by
      obtain ⟨v, v1, v2⟩ := h4 f e he
      exact ⟨v, v1, v2.mono w.f⟩⟩
/-- where the suite stands -/
structure Caught (C : Ctx ι) (i : Option Nat) (a : Addr) (cls : Value) (d : Option Addr) (B : Base) (F H : Hp) (σ : L2.St) (x : Exc) : Prop where
  b : Bx B F H
  at_ : XAt C.g F H x cls d
  nm : ∀ k, i = some k → σ[k]? = some (some (.ref a))
theorem Caught.gw {a : Addr} {cls : Value} {d : Option Addr} {x : Exc} (h : Caught C i a cls d B F H σ x) (w : Gw B F H F' H') : Caught C i a cls d B F' H' σ x := ⟨w.b, h.at_.gw w, h.nm⟩
abbrev Sx (C : Ctx ι) (j : ι) (a : Addr) (oe : Obj) (pn : List (Addr × Obj)) : Cx := (C.X j).suite a ((a, oe) :: pn)
abbrev Oe (cls : Value) (d : Option Addr) (oe : Obj) : Prop := Zc cls d oe ∧ ∃ vs, oe.data = .fields vs
def HE (C : Ctx ι) (i : Option Nat) (e : Expr) (m : Exc → Out D) : Prop := ∀ (a : Addr) (cls : Value) (d : Option Addr), ∃ t : TE, (∀ j oe pn, Oe cls d oe → PE (Sx C j a oe pn) e t) ∧
  ∀ B F H σ Q x dd, Caught C i a cls d B F H σ x → m x = .ok dd → (∀ v F' H', Gw B F H F' H' → Is C.g F' v dd → Q v H') → t σ H Q
def HT (C : Ctx ι) (i : Option Nat) (e : Expr) (m : Exc → Out Bool) : Prop := ∀ (a : Addr) (cls : Value) (d : Option Addr), ∃ t : TT, (∀ j oe pn, Oe cls d oe → PT (Sx C j a oe pn) e t) ∧
  ∀ B F H σ Q x b, Caught C i a cls d B F H σ x → m x = .ok b → (∀ F' H', Gw B F H F' H' → Q b H') → t σ H Q
def HW (C : Ctx ι) (i : Option Nat) (e : Expr) (m : Exc → Out Bool) : Prop := ∀ (a : Addr) (cls : Value) (d : Option Addr), ∃ t : TT, (∀ j oe pn, Oe cls d oe → PW (Sx C j a oe pn) e t) ∧
  ∀ B F H σ Q x b, Caught C i a cls d B F H σ x → m x = .ok b → (∀ F' H', Gw B F H F' H' → Q b H') → t σ H Q
def HA (C : Ctx ι) (i : Option Nat) (es : List Expr) (m : Exc → Out (List D)) : Prop := ∀ (a : Addr) (cls : Value) (d : Option Addr), ∃ t : TA, (∀ j oe pn, Oe cls d oe → PA (Sx C j a oe pn) es t) ∧
  ∀ B F H σ Q x ds, Caught C i a cls d B F H σ x → m x = .ok ds → (∀ vs F' H', Gw B F H F' H' → IsAll C.g F' vs ds → Q vs H') → t σ H Q
namespace HM
def cst (d : D) : Exc → Out D := fun _ => .ok d
def nil : Exc → Out (List D) := fun _ => .ok []
def cons (a : Exc → Out D) (b : Exc → Out (List D)) : Exc → Out (List D) := fun x => (a x).bind fun d => (b x).bind fun ds => .ok (d :: ds)
def tup (m : Exc → Out (List D)) : Exc → Out D := fun x => (m x).bind fun ds => if ds.length ≤ 1000 then .ok (.tup ds) else .bad
def attr (c : Str) (f : Str) : Exc → Out D := fun x => if x.c = c then (match x.fs.lookup f with
  | some d => .ok d
  | none => .bad) else .bad
def is (c : Str) (b : Bool) : Exc → Out D := fun x => if x.c = c then .ok (.bl b) else .bad
def bool (m : Exc → Out D) : Exc → Out Bool := fun x => (m x).bind fun d => match d with
  | .bl b => .ok b
  | _ => .bad
def and (m m' : Exc → Out Bool) : Exc → Out Bool := fun x => (m x).bind fun b => if b = true then m' x else .ok false
def ite (c : Exc → Out Bool) (a b : Exc → Out D) : Exc → Out D := fun x => (c x).bind fun k => if k = true then a x else b x
end HM
theorem bind_inv {α β : Type} {o : Out α} {f : α → Out β} {b : β} (h : o.bind f = .ok b) : ∃ a, o = .ok a ∧ f a = .ok b := by
  cases o with
  | ok a => exact ⟨a, rfl, h⟩
  | exc x => cases h
  | bad => cases h
theorem he_int {n : Int} {k} : HE C i (.Constant (.int n) k pos) (HM.cst (.int n)) := fun a cls d => ⟨_, fun j oe pn _ => pe_int, fun B F H σ Q x dd hc hm k => by cases hm; exact k _ F H (.refl hc.b) (.int _)⟩
theorem he_bl {n : Bool} {k} : HE C i (.Constant (.bool n) k pos) (HM.cst (.bl n)) := fun a cls d => ⟨_, fun j oe pn _ => pe_bl, fun B F H σ Q x dd hc hm k => by cases hm; exact k _ F H (.refl hc.b) (.bl _)⟩
theorem he_str {n : Str} {k} : HE C i (.Constant (.str n) k pos) (HM.cst (.str n)) := fun a cls d => ⟨_, fun j oe pn _ => pe_str, fun B F H σ Q x dd hc hm k => by cases hm; exact k _ F H (.refl hc.b) (.str _)⟩
theorem he_non {k} : HE C i (.Constant .none k pos) (HM.cst .non) := fun a cls d => ⟨_, fun j oe pn _ => pe_non, fun B F H σ Q x dd hc hm k => by cases hm; exact k _ F H (.refl hc.b) .non⟩
theorem ha_nil : HA C i [] HM.nil := fun a cls d => ⟨_, fun j oe pn _ => pa_nil, fun B F H σ Q x dd hc hm k => by cases hm; exact k _ F H (.refl hc.b) .nil⟩
theorem ha_cons {m : Exc → Out D} {ms : Exc → Out (List D)} (h : HE C i e m) (k : HA C i es ms)
    (hs : ∀ j a oe pn, starEach (e :: es) (Sx C j a oe pn).env = (false, eval e (Sx C j a oe pn).env) :: starEach es (Sx C j a oe pn).env := by intro _ _ _ _; rfl) : HA C i (e :: es) (HM.cons m ms) := fun a cls d => by
  obtain ⟨t, pt, s⟩ := h a cls d
  obtain ⟨u, pu, r⟩ := k a cls d
  refine ⟨_, fun j oe pn z => pa_cons (pt j oe pn z) (pu j oe pn z) (hs j a oe pn), fun B F H σ Q x ds hc hm k => ?_⟩
  obtain ⟨d1, m1, hm⟩ := bind_inv hm
  obtain ⟨d2, m2, hm⟩ := bind_inv hm
  cases hm
  exact s B F H σ _ x d1 hc m1 fun v F1 H1 w1 v1 => r B F1 H1 σ _ x d2 (hc.gw w1) m2 fun vs F2 H2 w2 v2 => k _ F2 H2 (w1.trans w2) (.cons (v1.mono w2.f) v2)
theorem he_tup {ms : Exc → Out (List D)} {k} (h : HA C i es ms) : HE C i (.Tuple es k pos) (HM.tup ms) := fun a cls d => by
  obtain ⟨t, pt, s⟩ := h a cls d
  refine ⟨_, fun j oe pn z => pe_tupX (pt j oe pn z), fun B F H σ Q x dd hc hm k => ?_⟩
  obtain ⟨ds, m1, hm⟩ := bind_inv hm
  by_cases q : ds.length ≤ 1000
  · rw [if_pos q] at hm
    cases hm
    refine s B F H σ _ x ds hc m1 fun vs F1 H1 w1 v1 => ⟨by rw [v1.length, sizeLine_eq]; omega, fun p o hp to => ?_⟩
    have hF := w1.b.fresh hp
    refine k _ (upd F1 p (.frz o (.tup vs))) _ (w1.trans ⟨w1.b.new hp _, Le.upd hF.1, Le.upd hp⟩) ?_
    exact .tup (.inl ⟨o, upd_same, to⟩) (v1.mono (Le.upd hF.1))
  · rw [if_neg q] at hm; cases hm
theorem ht_val {m : Exc → Out D} (h : HE C i e m) (he : ∀ j a oe pn whole, isTrue e (Sx C j a oe pn).env whole = (do let v ← whole; standAt e.pos; holding [v] (truthy v)) := by intro _ _ _ _ _; rfl) : HT C i e (HM.bool m) := fun a cls d => by
  obtain ⟨t, pt, s⟩ := h a cls d
  refine ⟨_, fun j oe pn z => pt_val (pt j oe pn z) (he j a oe pn), fun B F H σ Q x b hc hm k => ?_⟩
  obtain ⟨d1, m1, hm⟩ := bind_inv hm
  refine s B F H σ _ x d1 hc m1 fun v F1 H1 w1 v1 => ?_
  cases d1 with
  | bl b' => cases hm; cases v1; exact ⟨_, rfl, k F1 H1 w1⟩
  | _ => cases hm
theorem hw_and1 {m : Exc → Out Bool} (h : HT C i e m) : HW C i (.BoolOp .And [e] pos) m := fun a cls d => by
  obtain ⟨t, pt, s⟩ := h a cls d
  exact ⟨t, fun j oe pn z => pw_and1 (pt j oe pn z), s⟩
theorem hw_and {m m' : Exc → Out Bool} (h : HT C i e m) (h' : HW C i (.BoolOp .And (e1 :: es) pos) m') : HW C i (.BoolOp .And (e :: e1 :: es) pos) (HM.and m m') := fun a cls d => by
  obtain ⟨t, pt, s⟩ := h a cls d
  obtain ⟨u, pu, r⟩ := h' a cls d
  refine ⟨_, fun j oe pn z => pw_and (pt j oe pn z) (pu j oe pn z), fun B F H σ Q x b hc hm k => ?_⟩
  obtain ⟨b1, m1, hm⟩ := bind_inv hm
  refine s B F H σ _ x b1 hc m1 fun F1 H1 w1 => ?_
  cases b1 with
  | true => rw [if_pos rfl] at hm; exact r B F1 H1 σ _ x b (hc.gw w1) hm fun F2 H2 w2 => k F2 H2 (w1.trans w2)
  | false => rw [if_neg Bool.false_ne_true] at hm; cases hm; exact k F1 H1 w1
theorem ht_w {m : Exc → Out Bool} (h : HW C i e m) : HT C i e m := fun a cls d => by
  obtain ⟨t, pt, s⟩ := h a cls d
  exact ⟨t, fun j oe pn z => (pt j oe pn z).pt, s⟩
theorem he_if {mc : Exc → Out Bool} {m m' : Exc → Out D} (hc : HT C i e mc) (ha : HE C i e1 m) (hb : HE C i e2 m') : HE C i (.IfExp e e1 e2 pos) (HM.ite mc m m') := fun a cls d => by
  obtain ⟨tc, pc, sc⟩ := hc a cls d
  obtain ⟨t, pt, s⟩ := ha a cls d
  obtain ⟨u, pu, r⟩ := hb a cls d
  refine ⟨_, fun j oe pn z => pe_ifExp (pc j oe pn z) (pt j oe pn z) (pu j oe pn z), fun B F H σ Q x dd hc hm k => ?_⟩
  obtain ⟨b1, m1, hm⟩ := bind_inv hm
  refine sc B F H σ _ x b1 hc m1 fun F1 H1 w1 => ?_
  cases b1 with
  | true => rw [if_pos rfl] at hm; exact s B F1 H1 σ _ x dd (hc.gw w1) hm fun v F2 H2 w2 => k v F2 H2 (w1.trans w2)
  | false => rw [if_neg Bool.false_ne_true] at hm; exact r B F1 H1 σ _ x dd (hc.gw w1) hm fun v F2 H2 w2 => k v F2 H2 (w1.trans w2)
/-! ### the error's own -/
/-- what the class says of its errors' fields, and to isinstance -/
structure ExF (g : G) (c : Str) : Prop where
  X : XfC g.K (g.cA c)
  cl : (PySem.W.clsIn g.K (g.cA c)).isSome = true
  ha : PySem.W.findIn g.K (.ref (g.cA c)) "__class__" = some (some (.builtin "object.__class__"))
  hn : PySem.W.specialIn g.K (.builtin "object.__class__") "__get__" = some (some (.builtin "getset_descriptor.__get__"))
  ht : PySem.W.takesIn g.K (.builtin "object.__class__") = some true
  hm : PySem.W.mroIn g.K (g.cA c) (.type "object") = some true
theorem sx_var (ok : C.Ok) {k : Nat} (hx : C.vs[k]? = some (some x)) (j : ι) (a : Addr) (oe : Obj) (pn : List (Addr × Obj)) : PE (Sx C j a oe pn) (.Name x p) (tVar k) := by
  obtain ⟨h1, h2, h3, h4⟩ := ok.vis j k x hx
  exact pe_var (X := Sx C j a oe pn) (show (C.X j).N[k]? = some x by rw [ok.hN j]; exact h1) h2 h3 h4
theorem he_attr (ok : C.Ok) {k : Nat} {c f : Str} (E : ExF C.g c) (hno : PySem.W.findIn C.g.K (.ref (C.g.cA c)) f = some none) (hx : C.vs[k]? = some (some x)) (hb : ∀ j, attributeBase (.Name x p) f (C.X j).env (eval (.Name x p) (C.X j).env) = eval (.Name x p) (C.X j).env := by intro _; rfl) :
    HE C (some k) (.Attribute (.Name x p) f pos) (HM.attr c f) := fun a cls d => by
  refine ⟨tXf a cls d (C.g.cA c) f (tVar k), fun j oe pn z => pe_xf (by rw [ok.hK j]; exact E.X) (by rw [ok.hK j]; exact hno) z.1 z.2 (sx_var ok hx j a oe pn) (hb j), fun B F H σ Q x dd hc hm q => ?_⟩
  unfold HM.attr at hm
  by_cases e : x.c = c
  · rw [if_pos e] at hm
    obtain ⟨h1, h2⟩ := hc.at_
    refine ⟨_, hc.nm k rfl, rfl, by rw [h1, e], ?_⟩
    cases hl : x.fs.lookup f with
    | none => rw [hl] at hm; cases hm
    | some d1 =>
      rw [hl] at hm
      cases hm
      rcases h2 with ⟨h2, _⟩ | ⟨dx, fs, h2, h3, h4⟩
      · rw [h2] at hl; cases hl
      · obtain ⟨v, v1, v2⟩ := h4 f _ hl
        exact ⟨dx, fs, v, h2, h3, v1, q v F H (.refl hc.b) v2⟩
  · rw [if_neg e] at hm; cases hm
def rIsX (K : PySem.W.Frag) (cA a : Addr) (cls : Value) (d : Option Addr) (cv : V) (b : Bool) : List V → Hp → VK → Prop := fun xs H Q => xs = [.ref a, cv] ∧ cls = .ref cA ∧ (d = none ∨ ∃ dd fs, d = some dd ∧ H dd = some (.xd fs)) ∧ Q (.bl b) H
theorem call_isX (ok : C.Ok) {c : Str} (E : ExF C.g c) {a : Addr} {cls : Value} {d : Option Addr} {oe : Obj} {pn : List (Addr × Obj)} (z : Oe cls d oe) (j : ι) {cv : V} {cu : Value} {b : Bool} (hcv : ∀ u, RelV cv u → u = cu) (hk : PySem.W.kitOne C.g.K (.ref (C.g.cA c)) cu = some b) :
    CallR (Sx C j a oe pn) (.builtin "isinstance") (rIsX C.g.K (C.g.cA c) a cls d cv b) := by
  intro pins s σ H xs us Q I r h
  obtain ⟨rfl, hc, hd, hq⟩ := h
  obtain ⟨u, w, rfl, ru, rw'⟩ := vals2 r
  obtain rfl : u = Value.ref a := ru
  have ew : w = cu := hcv _ rw'
  rw [ew]
  obtain ⟨ha, _⟩ := I.pin (a, oe) (List.mem_append_left _ List.mem_cons_self)
  obtain ⟨⟨z1, z2⟩, vs, hv⟩ := z
  have nt : PySem.W.notCls oe = true := by unfold PySem.W.notCls; rw [hv] <;> rfl
  have hK : (Sx C j a oe pn).K = C.g.K := ok.hK j
  have go : ∀ od, PySem.W.InstAt s.heap a oe (C.g.cA c) od → wpAny (model (Sx C j a oe pn).prog (Sx C j a oe pn).w) (Sx C j a oe pn).A (call (.builtin "isinstance") [.ref a, cu]) (EP (Sx C j a oe pn) pins σ Q) (Sx C j a oe pn).xe s := fun od J =>
    PySem.W.kia_one (PySem.W.kitx_exc (K := C.g.K) (od := od) (ox := oe) E.cl E.X.ga E.X.gg E.X.exC E.ha E.hn E.ht E.hm) (by have q := I.kIn; rw [hK] at q; exact q) J hk (fun z => nomatch z) fun tk => ⟨.bl b, H, I.kept (t' := tk) fun _ _ z => z, rfl, hq⟩
  rcases hd with hd | ⟨dd, fs, hd, hf⟩
  · exact go none ⟨ha, by rw [z1, hc], nt, by rw [z2, hd]; trivial⟩
  · have hx : ObjOk (Sx C j a oe pn).prog (Sx C j a oe pn).w H s.heap dd (.xd fs) := I.hok dd _ hf
    obtain ⟨mA, hns, hr⟩ := hx
    obtain ⟨od, ho, hl⟩ := lookIn_ns hns
    exact go (some od) ⟨ha, by rw [z1, hc], nt, by rw [z2, hd]; exact ho⟩
theorem he_isCore (ok : C.Ok) {k : Nat} {c c2 : Str} (E : ExF C.g c) {cv : V} {cu : Value} {b : Bool} (hcv : ∀ u, RelV cv u → u = cu) (hk : PySem.W.kitOne C.g.K (.ref (C.g.cA c)) cu = some b) (hx : C.vs[k]? = some (some x)) (hmi : C.g.mg "isinstance" = none)
    (h2 : ∀ j a oe pn, PE (Sx C j a oe pn) (.Name c2 q) (tC cv)) (hg : glB C.sc "isinstance" = true := by kernel_rfl!)
    (h1 : ∀ j a oe pn, starEach [.Name x p, .Name c2 q] (Sx C j a oe pn).env = (false, eval (.Name x p) (Sx C j a oe pn).env) :: starEach [.Name c2 q] (Sx C j a oe pn).env := by intro _ _ _ _; rfl)
    (h1' : ∀ j a oe pn, starEach [.Name c2 q] (Sx C j a oe pn).env = (false, eval (.Name c2 q) (Sx C j a oe pn).env) :: starEach [] (Sx C j a oe pn).env := by intro _ _ _ _; rfl)
    (hpl : ∀ j a oe pn, (backTo pos (starEach [.Name c2 q] (Sx C j a oe pn).env)).any (·.1) = false := by intro _ _ _ _; rfl) : HE C (some k) (.Call (.Name "isinstance" q2) [.Name x p, .Name c2 q] [] pos) (HM.is c b) := fun a cls d => by
  refine ⟨_, fun j oe pn z => pe_callB (call_isX ok E z j hcv hk) (gl ok hg j) (by show (C.X j).mg _ = _; rw [ok.hm j]; exact hmi) (by decide +kernel) (pa_cons (sx_var ok hx j a oe pn) (pa_cons (h2 j a oe pn) pa_nil (h1' j a oe pn)) (h1 j a oe pn)) (by decide) (by decide) (h1 j a oe pn) (hpl j a oe pn), fun B F H σ Q x dd hc hm q => ?_⟩
  unfold HM.is at hm
  by_cases e : x.c = c
  · rw [if_pos e] at hm
    cases hm
    obtain ⟨h3, h4⟩ := hc.at_
    refine ⟨_, hc.nm k rfl, rfl, by rw [h3, e], ?_, q _ F H (.refl hc.b) (.bl b)⟩
    rcases h4 with ⟨_, h4⟩ | ⟨dx, fs, h4, h5, _⟩
    · exact .inl h4
    · exact .inr ⟨dx, fs, h4, h5⟩
  · rw [if_neg e] at hm; cases hm
/-- isinstance(error, an own class) -/
theorem he_is (ok : C.Ok) {k : Nat} {c c2 : Str} (E : ExF C.g c) {b : Bool} (hk : PySem.W.kitOne C.g.K (.ref (C.g.cA c)) (.ref (C.g.cA c2)) = some b) (hm2 : C.g.mg c2 = some (.ref (C.g.cA c2))) (hx : C.vs[k]? = some (some x)) (hmi : C.g.mg "isinstance" = none)
    (hg2 : glB C.sc c2 = true := by kernel_rfl!) (hdb : (c2 == ("__debug__" : Str)) = false := by decide) (hg : glB C.sc "isinstance" = true := by kernel_rfl!) : HE C (some k) (.Call (.Name "isinstance" q2) [.Name x p, .Name c2 q] [] pos) (HM.is c b) :=
  he_isCore ok E (cv := .ref (C.g.cA c2)) (fun u h => h) hk hx hmi (fun j a oe pn => pe_glob (gl ok hg2 j) (show (C.X j).mg c2 = _ by rw [ok.hm j]; exact hm2) rfl hdb) hg
/-- isinstance(error, ValueError) -/
theorem he_isV (ok : C.Ok) {k : Nat} {c : Str} (E : ExF C.g c) {b : Bool} (hk : PySem.W.kitOne C.g.K (.ref (C.g.cA c)) (.type "ValueError") = some b) (hm2 : C.g.mg "ValueError" = none) (hx : C.vs[k]? = some (some x)) (hmi : C.g.mg "isinstance" = none)
    (hg2 : glB C.sc "ValueError" = true := by kernel_rfl!) (hg : glB C.sc "isinstance" = true := by kernel_rfl!) : HE C (some k) (.Call (.Name "isinstance" q2) [.Name x p, .Name "ValueError" q] [] pos) (HM.is c b) :=
  he_isCore ok E (cv := .ty "ValueError") (fun u h => h) hk hx hmi (fun j a oe pn => pe_bltn (gl ok hg2 j) (show (C.X j).mg _ = _ by rw [ok.hm j]; exact hm2) (by decide +kernel) rfl) hg
/-! ### the statement -/
abbrev TryI (C : Ctx ι) (W : WX) : Type := { p : ι × List (Addr × Obj) × (Value → Shared → Prop) // Takes ((C.X p.1).tr p.2.1 p.2.2) W ∧ PassesOwn (model (C.X p.1).prog (C.X p.1).w) (C.X p.1).A (C.X p.1).env p.2.2 }
abbrev tctx (C : Ctx ι) (W : WX) : Ctx (TryI C W) where
  X := fun j => (C.X j.1.1).tr j.1.2.1 j.1.2.2
  g := C.g
  N := C.N
  vs := C.vs
  as := C.as
  W := W
  lv := C.lv
  io := C.io
  sc := C.sc
theorem tctx_ok (ok : C.Ok) (W : WX) : (tctx C W).Ok where
  hP := fun j => ok.hP j.1.1
  hw := fun j => ok.hw j.1.1
  hK := fun j => ok.hK j.1.1
  hm := fun j => ok.hm j.1.1
  hb := fun j => ok.hb j.1.1
  calm := fun j => ok.calm j.1.1
  hN := fun j => ok.hN j.1.1
  nd := ok.nd
  vis := fun j => ok.vis j.1.1
  asg := fun j => ok.asg j.1.1
  tk := fun j => j.2.1
  po := fun j => j.2.2
  room := fun j => ok.room j.1.1
  hsc := fun j => ok.hsc j.1.1
/-- a clause: the classes that it takes, and what it returns -/
structure Hd where
  yes : Str → Out Bool
  m : Exc → Out D
/-- the answers of one clause, class by class -/
def tells (ys ns : List Str) (c : Str) : Out Bool := if ys.contains c then .ok true else if ns.contains c then .ok false else .bad
inductive HdOk (C : Ctx ι) : List ExceptHandler → List Hd → Prop
  | nil : HdOk C [] []
  | bare {c : Str} {ys ns : List Str} {e : Expr} {np p1 p2 : Pos} {hds : List ExceptHandler} {l : List Hd} {m : Exc → Out D} (hn : ∀ j, Names (C.X j) c (.ref (C.g.cA c))) (hy : ∀ k ∈ ys, PySem.W.exmOne C.g.K (.ref (C.g.cA k)) (.ref (C.g.cA c)) = some true)
      (hns : ∀ k ∈ ns, PySem.W.exmOne C.g.K (.ref (C.g.cA k)) (.ref (C.g.cA c)) = some false) (h : HE C none e m) (r : HdOk C hds l) : HdOk C (.ExceptHandler (some (.Name c np)) none [.Return (some e) p1] p2 :: hds) (⟨tells ys ns, m⟩ :: l)
  | as {c n : Str} {i : Nat} {ys ns : List Str} {e : Expr} {np p1 p2 : Pos} {hds : List ExceptHandler} {l : List Hd} {m : Exc → Out D} (hi : C.N[i]? = some n) (hl : ∀ j, (C.X j).env.kindOf n = some .local) (hlt : i < C.N.length) (hn : ∀ j, Names (C.X j) c (.ref (C.g.cA c))) (hy : ∀ k ∈ ys, PySem.W.exmOne C.g.K (.ref (C.g.cA k)) (.ref (C.g.cA c)) = some true)
      (hns : ∀ k ∈ ns, PySem.W.exmOne C.g.K (.ref (C.g.cA k)) (.ref (C.g.cA c)) = some false) (h : HE C (some i) e m) (r : HdOk C hds l) : HdOk C (.ExceptHandler (some (.Name c np)) (some n) [.Return (some e) p1] p2 :: hds) (⟨tells ys ns, m⟩ :: l)
def catchX (x : Exc) : List Hd → SOut
  | [] => .exc x
  | h :: r => match h.yes x.c with
    | .ok true => (match h.m x with
      | .ok d => .ret d []
      | _ => .bad)
    | .ok false => catchX x r
    | _ => .bad
def M.tryR (m : Env → SOut) (l : List Hd) : Env → SOut := fun ρ => match m ρ with
  | .exc x => catchX x l
  | o => o
theorem names_of (ok : C.Ok) {c : Str} (hm : C.g.mg c = some (.ref (C.g.cA c))) (hg : glB C.sc c = true := by kernel_rfl!) (hdb : (c == ("__debug__" : Str)) = false := by decide) : ∀ j, Names (C.X j) c (.ref (C.g.cA c)) := fun j => ⟨gl ok hg j, hdb, .inl (by rw [ok.hm j]; exact hm)⟩
theorem tells_of {K : PySem.W.Frag} {g : G} {ys ns : List Str} {k c : Str} {b : Bool} (hy : ∀ k ∈ ys, PySem.W.exmOne K (.ref (g.cA k)) (.ref (g.cA c)) = some true) (hn : ∀ k ∈ ns, PySem.W.exmOne K (.ref (g.cA k)) (.ref (g.cA c)) = some false) (h : tells ys ns k = .ok b) : PySem.W.exmOne K (.ref (g.cA k)) (.ref (g.cA c)) = some b := by
  unfold tells at h
  by_cases q : ys.contains k = true
  · rw [if_pos q] at h; cases h; exact hy k (List.contains_iff_mem.mp q)
  · rw [if_neg q] at h
    by_cases q2 : ns.contains k = true
    · rw [if_pos q2] at h; cases h; exact hn k (List.contains_iff_mem.mp q2)
    · rw [if_neg q2] at h; cases h
/-- the clauses' readings -/
theorem hd_read (ok : C.Ok) (hio : C.io = []) {hds : List ExceptHandler} {l : List Hd} (h : HdOk C hds l) : ∃ L : List Cls1, (∀ j, ClsOk (C.X j) hds L) ∧
    ∀ (B : Base) (F0 F H : Hp) (μ' μL : List Md) (D : Ends) (x : Exc) (cls : Value) (d : Option Addr) (σ : L2.St), B.pins = [] → Bx B F H → XAt C.g F H x cls d → (SPost C B F0 μ' μL .fz D (catchX x l)) → wAll C.g.K C.N.length C.W D L cls d σ H := by
  induction h with
  | nil => exact ⟨[], fun j => .nil, fun B F0 F H μ' μL D x cls d σ hp hb hx k => k cls d F H σ hb hx⟩
  | @bare c ys ns e np p1 p2 hds l m hn hy hns he r ih =>
    obtain ⟨L, i1, i2⟩ := ih
    have he := fun a cls d => he a cls d
    refine ⟨⟨.ref (C.g.cA c), none, fun a cls d => tRet (Classical.choose (he a cls d))⟩ :: L, fun j => .bare (hn j) (fun a oe cls d pn z z2 => pss_one (ps_ret ((Classical.choose_spec (he a cls d)).1 j oe pn ⟨z, z2⟩))) (i1 j), fun B F0 F H μ' μL D x cls d σ hp hb hx k => ?_⟩
    unfold catchX at k
    obtain ⟨hx1, hx2⟩ := id hx
    cases ht : tells ys ns x.c with
    | exc z => simp only [ht] at k; exact k.elim
    | bad => simp only [ht] at k; exact k.elim
    | ok b =>
      refine ⟨b, by rw [hx1]; exact tells_of hy hns ht, fun hbt a ha hl => ?_, fun hbf => ?_⟩
      · subst hbt
        simp only [ht] at k
        cases hm : m x with
        | exc z => simp only [hm] at k; exact k.elim
        | bad => simp only [hm] at k; exact k.elim
        | ok dd =>
          simp only [hm] at k
          exact (Classical.choose_spec (he a cls d)).2 B F H _ _ x dd ⟨hb, hx, fun k hk => by cases hk⟩ hm fun v F' H' w hv => k F' H' [] [] v ⟨w.b, rfl, rfl, (fun i d q => by simp at q), (fun i j a _ _ _ q => by simp at q), (fun p hpp => by rw [hp] at hpp; cases hpp), (fun i hi => by simp [md] at hi)⟩ (by rw [hio]; rfl) hv
      · subst hbf
        simp only [ht] at k
        exact i2 B F0 F H μ' μL D x cls d σ hp hb hx k
  | @as c n i ys ns e np p1 p2 hds l m hi hl hlt hn hy hns he r ih =>
    obtain ⟨L, i1, i2⟩ := ih
    have he := fun a cls d => he a cls d
    refine ⟨⟨.ref (C.g.cA c), some i, fun a cls d => tRet (Classical.choose (he a cls d))⟩ :: L, fun j => .as (by rw [ok.hN j]; exact hi) (hl j) (hn j) (fun a oe cls d pn z z2 => pss_one (ps_ret ((Classical.choose_spec (he a cls d)).1 j oe pn ⟨z, z2⟩))) (i1 j), fun B F0 F H μ' μL D x cls d σ hp hb hx k => ?_⟩
    unfold catchX at k
    obtain ⟨hx1, hx2⟩ := id hx
    cases ht : tells ys ns x.c with
    | exc z => simp only [ht] at k; exact k.elim
    | bad => simp only [ht] at k; exact k.elim
    | ok b =>
      refine ⟨b, by rw [hx1]; exact tells_of hy hns ht, fun hbt a ha hl => ?_, fun hbf => ?_⟩
      · subst hbt
        simp only [ht] at k
        cases hm : m x with
        | exc z => simp only [hm] at k; exact k.elim
        | bad => simp only [hm] at k; exact k.elim
        | ok dd =>
          simp only [hm] at k
          exact (Classical.choose_spec (he a cls d)).2 B F H _ _ x dd ⟨hb, hx, fun k hk => by cases hk; exact List.getElem?_set_self (by rw [hl]; exact hlt)⟩ hm fun v F' H' w hv => k F' H' [] [] v ⟨w.b, rfl, rfl, (fun i d q => by simp at q), (fun i j a _ _ _ q => by simp at q), (fun p hpp => by rw [hp] at hpp; cases hpp), (fun i hi => by simp [md] at hi)⟩ (by rw [hio]; rfl) hv
      · subst hbf
        simp only [ht] at k
        exact i2 B F0 F H μ' μL D x cls d σ hp hb hx k
/-- try: .., every suite returns -/
theorem ds_try (ok : C.Ok) (hio : C.io = []) (hs : ∀ j, (C.X j).stack = (C.X j).env :: (C.X j).outer) (hf : ∀ j, (C.X j).env.frame = some (C.X j).env.locals) {body : List Stmt} {m : Env → SOut} {h₀ : ExceptHandler} {hds : List ExceptHandler} {l : List Hd}
    (hb : ∀ W, (tctx C W).Ok → DSs (tctx C W) .fz μL μ body μ' m) (hh : HdOk C (h₀ :: hds) l) : DS C .fz μL μ (.Try body (h₀ :: hds) [] [] pos) μ' (M.tryR m l) := by
  obtain ⟨L, r1, r2⟩ := hd_read ok hio hh
  have hb := fun W => hb W (tctx_ok ok W)
  refine ⟨fun D σ H => Classical.choose (hb (wAll C.g.K C.N.length C.W D L)) D σ H, fun j => ?_, fun B F H ρ σ D hp R h => ?_⟩
  · have := ps_try_all (X := C.X j) (pos := pos) (hs j) (hf j) (by rw [ok.hN j]; exact ok.nd) (ok.tk j) (tb := fun W => Classical.choose (hb W)) (fun W pn xe tk po => (Classical.choose_spec (hb W)).1 ⟨(j, pn, xe), tk, po⟩) (r1 j)
    rw [ok.hK j, ok.hN j] at this
    exact this
  · refine (Classical.choose_spec (hb (wAll C.g.K C.N.length C.W D L))).2 B F H ρ σ D hp R ?_
    have hpin : B.pins = [] := by
      cases hq : B.pins with
      | nil => rfl
      | cons p ps =>
        have : p.1 ∈ C.io := hp.1 p (by rw [hq]; exact List.mem_cons_self)
        rw [hio] at this
        cases this
    unfold M.tryR at h
    cases hm : m ρ with
    | nx ρ' => rw [hm] at h; exact h
    | ret d ρ' => rw [hm] at h; exact h
    | brk ρ' => rw [hm] at h; exact h
    | cont ρ' => rw [hm] at h; exact h
    | bad => rw [hm] at h; exact h
    | exc x => rw [hm] at h; exact fun cls d F' H' σ' b xa => r2 B F F' H' μ' μL D x cls d σ' hpin b xa h
end
end PyD

set_option Elab.async false
set_option linter.all false
set_option maxRecDepth 100000
/-! facts of error classes, put together -/
namespace PyD
open PySem L2 L2X PyProof.Rows
theorem kit_sub {K : PySem.W.Frag} {a b : Addr} (h1 : PySem.W.isClsIn K b = true) (h2 : PySem.W.typeIn K (.ref b) = some (.type "type")) (h3 : PySem.W.subIn K (.ref a) (.ref b) = some true) : PySem.W.kitOne K (.ref a) (.ref b) = some true := by
  unfold PySem.W.kitOne
  split
  · rfl
  · unfold PySem.W.kitCls
    have e : ((PySem.W.clsIn K b).isSome && PySem.W.typeIn K (.ref b) == some (.type "type")) = true := by
      have h1' : (PySem.W.clsIn K b).isSome = true := h1
      rw [h1', h2] <;> rfl
    dsimp only
    rw [if_pos e]
    exact h3
theorem kit_notsub {K : PySem.W.Frag} {a b : Addr} (h1 : PySem.W.isClsIn K b = true) (h2 : PySem.W.typeIn K (.ref b) = some (.type "type")) (h3 : PySem.W.subIn K (.ref a) (.ref b) = some false) (h4 : PySem.W.subIn K (.ref a) (.ref a) = some true) : PySem.W.kitOne K (.ref a) (.ref b) = some false := by
  unfold PySem.W.kitOne
  split
  · rename_i h
    have : a = b := by simpa using h
    subst this
    rw [h4] at h3; cases h3
  · unfold PySem.W.kitCls
    have e : ((PySem.W.clsIn K b).isSome && PySem.W.typeIn K (.ref b) == some (.type "type")) = true := by
      have h1' : (PySem.W.clsIn K b).isSome = true := h1
      rw [h1', h2] <;> rfl
    dsimp only
    rw [if_pos e]
    exact h3
theorem kit_V {K : PySem.W.Frag} {a : Addr} (h : PySem.W.subIn K (.ref a) (.type "ValueError") = some true) : PySem.W.kitOne K (.ref a) (.type "ValueError") = some true := by
  unfold PySem.W.kitOne
  split
  · rfl
  · unfold PySem.W.kitCls
    dsimp only
    rw [if_pos (by decide +kernel)]
    exact h
end PyD

set_option Elab.async false
set_option linter.all false
set_option maxRecDepth 100000
/-! d.get(k), d.get(k, z) -/
namespace PyD
open PySem L2 L2X PyProof.Rows
section
variable {ι : Type} {C : Ctx ι} {μ : List Md} {e a b c : Expr} {es : List Expr} {pos p p2 p3 q : Pos} {x : Str} {g : G} {B : Base} {F H : Hp} {ρ : Env} {σ : L2.St}
def getO (d : D) (ys : List D) : Out D := match d, ys with
  | .dic ks vs, [k] => if okKey k = true then .ok ((dget ks vs k).getD .non) else .bad
  | .dic ks vs, [k, z] => if okKey k = true then .ok ((dget ks vs k).getD z) else .bad
  | _, _ => .bad
def rGetD (g : G) : V → List V → Hp → VK → Prop := fun x xs H Q => ∃ F a ks vs d y, x = .ref a ∧ Le F H ∧ DicAt g F H a ks vs ∧ Is g F y d ∧ okKey d = true ∧
  ((xs = [y] ∧ ∀ u, Is g F u ((dget ks vs d).getD .non) → Q u H) ∨ ∃ z, xs = [y, z] ∧ (dget ks vs d = none → Q z H) ∧ ∀ e, dget ks vs d = some e → ∀ u, Is g F u e → Q u H)
theorem mt_getD (ok : C.Ok) (j : ι) : MtR (C.X j) "dict.get" (rGetD C.g) := by
  intro pins s σ H x xs v us Q I rx rxs h
  obtain ⟨F, a, ks, vs, d, y, rfl, sub, hd, id, hk, h⟩ := h
  cases rx
  obtain ⟨k, k1, k2⟩ := okKey_of hk
  obtain ⟨xt, m1, m2, m3, m4, m5, m6, m7⟩ := hd.tab I (ok.hK j) sub
  have m1' : DictV (C.X j).w s.heap a xt := by rw [ok.hw j]; exact m1
  rcases h with ⟨rfl, q⟩ | ⟨z, rfl, q1, q2⟩
  · obtain ⟨u, rfl, ru⟩ := vals1 rxs
    refine call_meetsIn PySem.F.slot_dict_get m1'.typeIs PySem.F.entry_dict_get (PySem.F.args_dict_get_2 _ _) (meetsGetV a u m2) ⟨by have := units9 (ok.room j); simpa using this, k, xt, ⟨Is.kis I (ok.hK j) sub id k1 ru, k2⟩, m1', m5, m4, fun t => ?_⟩
    rcases m6.at k1 with ⟨p, w, e, e1, e2, r1, i1⟩ | ⟨e1, e2⟩
    · rw [e2] at q
      rw [e1]
      exact ⟨w, H, I.tok t, r1, q w i1⟩
    · rw [e2] at q
      rw [e1]
      exact ⟨.non, H, I.tok t, rfl, q .non .non⟩
  · obtain ⟨u, w', rfl, ru, rw'⟩ := vals2 rxs
    refine call_meetsIn PySem.F.slot_dict_get m1'.typeIs PySem.F.entry_dict_get (PySem.F.args_dict_get_3 _ _ _) (meetsGetV2 a u w' m2) ⟨by have := units9 (ok.room j); simpa using this, k, xt, ⟨Is.kis I (ok.hK j) sub id k1 ru, k2⟩, m1', m5, m4, fun t => ?_⟩
    rcases m6.at k1 with ⟨p, w, e, e1, e2, r1, i1⟩ | ⟨e1, e2⟩
    · rw [e1]
      exact ⟨w, H, I.tok t, r1, q2 e e2 w i1⟩
    · rw [e1]
      exact ⟨z, H, I.tok t, rw', q1 e2⟩
def rGetN (g : G) : Nat → V → List V → Hp → VK → Prop
  | _ => rGetD g
theorem m_getD (ok : C.Ok) (j : ι) : ∀ n ∈ [2], PlainAttrs (tyS n) ∧ Slot (tyS n) "get" "dict.get" ∧ typeOf (.builtin "dict.get") = pure (.type "method_descriptor") ∧ MtR (C.X j) "dict.get" (rGetN C.g n) := by
  intro n hn
  rw [List.mem_singleton] at hn; subst hn
  exact ⟨PySem.F.plainAttrs_dict, PySem.F.slot_dict_get, PySem.F.type_dict_get, mt_getD ok j⟩
/-- a method that reads, its arguments shared data -/
def MethA (C : Ctx ι) (S : List Nat) (r : Nat → V → List V → Hp → VK → Prop) (f : D → List D → Out D) : Prop := ∀ B F H μ ρ σ v d xs ds Q, tagD d ∈ S → Rel C.g B F H μ ρ σ → RdR C.g F H v d → IsAll C.g F xs ds →
  Post C B F H μ σ ((f d ds).bind fun d => .ok (d, ρ)) (fun d _ F' H' => ∀ v, Is C.g F' v d → Q v H') → r (tagD d) v xs H Q
def methAK (f : D → List D → Out D) (a : Arg) (t : Nat) (p : List D × Env) : Out (D × Env) := (get a p.2).bind fun x => if tagD x = t then (f x p.1).bind fun d => .ok (d, p.2) else .bad
def M.methA (S : List Nat) (f : D → List D → Out D) (oa : Env → Out (Arg × Env)) (ms : Env → Out (List D × Env)) : Env → Out (D × Env) := fun ρ => (oa ρ).bind fun p => (get p.1 p.2).bind fun x => if tagD x ∈ S then (ms p.2).bind (methAK f p.1 (tagD x)) else .bad
theorem de_methA (ok : C.Ok) {name : Str} {S : List Nat} {id : Nat → String} {r : Nat → V → List V → Hp → VK → Prop} {f : D → List D → Out D} (h9 : 9 ∉ S)
    (hm : ∀ j, ∀ n ∈ S, PlainAttrs (tyS n) ∧ Slot (tyS n) name (id n) ∧ typeOf (.builtin (id n)) = pure (.type "method_descriptor") ∧ MtR (C.X j) (id n) (r n)) (hs : MethA C S r f)
    {oa : Env → Out (Arg × Env)} {ms : Env → Out (List D × Env)} {apos cpos : Pos} {o : Expr} (ho : DO C μ o oa) (ha : DA C μ (e :: es) ms)
    (hbase : ∀ j, attributeBase o name (C.X j).env (eval o (C.X j).env) = eval o (C.X j).env := by intro _; rfl)
    (hfew : ∀ j, ((backTo cpos (starEach (e :: es) (C.X j).env)).all (fun x => !x.1) && (backToKw cpos (keywordEach [] (C.X j).env)).all (fun x => x.1.isSome)
      && decide ((e :: es).length + ([] : List Keyword).length + (if ([] : List Keyword).isEmpty then 0 else 1) < 30)) = true := by intro _; rfl)
    (hline : (apos.endLine == cpos.line) = true := by rfl) (hst : ∀ j, starEach (e :: es) (C.X j).env = (false, eval e (C.X j).env) :: starEach es (C.X j).env := by intro _; rfl) (hpl : ∀ j, (backTo cpos (starEach es (C.X j).env)).any (·.1) = false := by intro _; rfl) :
    DE C μ (.Call (.Attribute o name apos) (e :: es) [] cpos) (M.methA S f oa ms) := by
  obtain ⟨to, po, so⟩ := ho
  obtain ⟨ta, pa, sa⟩ := ha
  refine ⟨tMy C.g.K S r to ta, fun j => ?_, fun B F H ρ σ Q R h => so B F H ρ σ _ R ((Post.bnd h).imp fun y ρ1 F1 H1 R1 S1 k v hv => ?_)⟩
  · rw [← ok.hK j]
    exact pe_my (hm j) (po j) (pa j) (hbase j) (hfew j) hline (hst j) (hpl j)
  · have k : Post C B F1 H1 μ σ ((get y ρ1).bind fun x => if tagD x ∈ S then (ms ρ1).bind (methAK f y (tagD x)) else .bad) _ := k
    cases ey : get y ρ1 with
    | exc z => exact absurd ey (get_ne _ _ _)
    | bad => rw [ey] at k; exact k.elim
    | ok d0 =>
      rw [ey] at k
      replace k : Post C B F1 H1 μ σ (if tagD d0 ∈ S then (ms ρ1).bind (methAK f y (tagD d0)) else .bad) _ := k
      by_cases hS : tagD d0 ∈ S
      · rw [if_pos hS] at k
        refine ⟨_, hS, (R1.arg hv ey).tag R1.sub (fun z => h9 (z ▸ hS)), sa B F1 H1 ρ1 σ _ R1 ((Post.bnd k).imp fun ds ρ2 F2 H2 R2 S2 k2 vs hvs => ?_)⟩
        have hv2 := hv.mono S2.f
        have k2 : Post C B F2 H2 μ σ ((get y ρ2).bind fun x => if tagD x = tagD d0 then (f x ds).bind fun d => .ok (d, ρ2) else .bad) _ := k2
        cases e2 : get y ρ2 with
        | exc z => exact absurd e2 (get_ne _ _ _)
        | bad => rw [e2] at k2; exact k2.elim
        | ok d1 =>
          rw [e2] at k2
          replace k2 : Post C B F2 H2 μ σ (if tagD d1 = tagD d0 then (f d1 ds).bind fun d => .ok (d, ρ2) else .bad) _ := k2
          by_cases ht : tagD d1 = tagD d0
          · rw [if_pos ht] at k2
            rw [← ht]
            exact hs B F2 H2 μ ρ2 σ v d1 vs ds Q (ht ▸ hS) R2 (R2.arg hv2 e2) hvs k2
          · rw [if_neg ht] at k2; exact k2.elim
      · rw [if_neg hS] at k; exact k.elim
theorem s_getD : MethA C [2] (rGetN C.g) getO := by
  intro B F H μ ρ σ v d xs ds Q ht R rd rs h
  match d, ds, rs, h with
  | .dic ks vs, [k], .cons ru .nil, h =>
    replace h : Post C B F H μ σ ((if okKey k = true then Out.ok ((dget ks vs k).getD .non) else .bad).bind fun d => .ok (d, ρ)) _ := h
    by_cases q : okKey k = true
    · rw [if_pos q] at h
      obtain ⟨a, rfl, hd⟩ := rd.dic R.sub
      exact ⟨F, a, ks, vs, k, _, rfl, R.sub, hd, ru, q, .inl ⟨rfl, fun w hw => h.sc R hw⟩⟩
    · rw [if_neg q] at h; exact h.elim
  | .dic ks vs, [k, z], .cons ru (.cons rw' .nil), h =>
    replace h : Post C B F H μ σ ((if okKey k = true then Out.ok ((dget ks vs k).getD z) else .bad).bind fun d => .ok (d, ρ)) _ := h
    by_cases q : okKey k = true
    · rw [if_pos q] at h
      obtain ⟨a, rfl, hd⟩ := rd.dic R.sub
      refine ⟨F, a, ks, vs, k, _, rfl, R.sub, hd, ru, q, .inr ⟨_, rfl, fun e => ?_, fun e he w' hw => ?_⟩⟩
      · rw [e] at h
        exact h.sc R rw'
      · rw [he] at h
        exact h.sc R hw
    · rw [if_neg q] at h; exact h.elim
  | .dic ks vs, [], rs, h => exact h.elim
  | .dic ks vs, _ :: _ :: _ :: _, rs, h => exact h.elim
  | .non, _, _, h => exact h.elim
  | .bl _, _, _, h => exact h.elim
  | .int _, _, _, h => exact h.elim
  | .str _, _, _, h => exact h.elim
  | .tup _, _, _, h => exact h.elim
  | .lst _, _, _, h => exact h.elim
  | .scr _, _, _, h => exact h.elim
  | .obj _ _ _, _, _, h => exact h.elim
theorem x_get (ok : C.Ok) {oa : Env → Out (Arg × Env)} {ms : Env → Out (List D × Env)} {apos cpos : Pos} {o : Expr} (ho : DO C μ o oa) (ha : DA C μ (e :: es) ms)
    (hbase : ∀ j, attributeBase o "get" (C.X j).env (eval o (C.X j).env) = eval o (C.X j).env := by intro _; rfl)
    (hfew : ∀ j, ((backTo cpos (starEach (e :: es) (C.X j).env)).all (fun x => !x.1) && (backToKw cpos (keywordEach [] (C.X j).env)).all (fun x => x.1.isSome)
      && decide ((e :: es).length + ([] : List Keyword).length + (if ([] : List Keyword).isEmpty then 0 else 1) < 30)) = true := by intro _; rfl)
    (hline : (apos.endLine == cpos.line) = true := by rfl) (hst : ∀ j, starEach (e :: es) (C.X j).env = (false, eval e (C.X j).env) :: starEach es (C.X j).env := by intro _; rfl) (hpl : ∀ j, (backTo cpos (starEach es (C.X j).env)).any (·.1) = false := by intro _; rfl) :
    DE C μ (.Call (.Attribute o "get" apos) (e :: es) [] cpos) (M.methA [2] getO oa ms) := de_methA ok (by decide) (m_getD ok) s_getD ho ha hbase hfew hline hst hpl
end
end PyD

set_option Elab.async false
set_option linter.all false
set_option maxRecDepth 100000
set_option maxHeartbeats 2000000
/-! set comprehensions of numbers -/
namespace PyD
open PySem L2 L2X PyProof.Rows
section
variable {X : Cx}
theorem addI_ok {pp : List (Addr × Obj)} {σ : L2.St} {H : Hp} {s : Shared} {E : Value → Shared → Prop} {D : Addr} {S : Int → Bool} {n : Nat} {y : Int} {tk : Tok} {R : Value → Shared → Prop} (J : Inv X pp σ H s) (at' : H D = some (SetO X.w D S n)) (rm : n + 1 < scanBound)
    (h : ∀ s2, Inv X pp σ (upd H D (SetO X.w D (fun j => S j || decide (j = y)) (if S y = true then n else n + 1))) s2 → R .none s2) : wpAny (model X.prog X.w) X.A (call (.builtin "set.add") [.ref D, .int y tk]) R E s := by
  refine setR_add (setO_get J at') rm fun h2 sb nw => ?_
  obtain ⟨o, eo⟩ : ∃ o, h2.get? D = some o := let ⟨o, _, _, _, ho, _⟩ := nw; ⟨o, ho⟩
  exact h _ (J.write (e := D) (t' := s.toks + 1) (by rw [at']; trivial) (.inl rfl) (fun b u hb hu => (sb.2 b hb).trans hu) ⟨o, eo⟩ (setO_new nw))
/-- {elt for tg in it if ..} of numbers; D the new set -/
def tScI (w : World) (wi : TI) (g : TG) (tt : TT) (te : TE) (own : List Nat) : TE := fun σ H Q => wi σ H fun J G => ∀ D, G D = none → ∃ W : Nat → Nat → Hp → Prop, (∃ m, W 0 m (upd G D (SetO w D (fun _ => false) 0))) ∧ ∀ i m A, W i m A →
  (J.stop i A ∧ Q (.ref D) A) ∨ (J.go i A ∧ ∃ Nx : Hp → Prop, (∀ A', Nx A' → ∃ l, l < m ∧ W (i + 1) l A') ∧ ∀ x A', J.yld i A x A' → g x (wipe σ own) A' fun τ A2 => wipe τ own = wipe σ own ∧ tt τ A2 fun b A3 =>
    if b = true then te τ A3 fun y A4 => ∃ (k : Int) (S : Int → Bool) (n : Nat), y = .int k ∧ A4 D = some (SetO w D S n) ∧ n + 1 < scanBound ∧ Nx (upd A4 D (SetO w D (fun j => S j || decide (j = k)) (if S k = true then n else n + 1))) else Nx A3)
theorem scI_core {pins : List (Addr × Obj)} {s : Shared} {σ : L2.St} {H : Hp} {Q : VK} {elt tg iter : Expr} {ifs : List Expr} {scope : Scope} {own : List (PySem.Str × Nat)} {pos pos' : Pos} {wi : TI} {g : TG} {tt : TT} {te : TE} {us : Option (Value → Sem Unit)} {Qf : Value → Shared → Prop} (hc : X.calm = true) (hN : X.N.Nodup) (I : Inv X pins σ H s) (hi : PI X tg iter wi) (ok : BlkOk X.N X.env.scope scope own)
    (hg : ∀ (t : Shared) (H : Hp) (C : Addr) (cl : List (PySem.Str × Addr)) (fp : List Addr), PG (X.blk t H scope (compEnvC scope cl C X.env) fp) tg g) (ht : ∀ (t : Shared) (H : Hp) (C : Addr) (cl : List (PySem.Str × Addr)) (fp : List Addr), PTs (X.blk t H scope (compEnvC scope cl C X.env) fp) ifs tt)
    (he : ∀ (t : Shared) (H : Hp) (C : Addr) (cl : List (PySem.Str × Addr)) (fp : List Addr), PE (X.blk t H scope (compEnvC scope cl C X.env) fp) elt te) (hs : ∀ x, foldedSetIterable iter X.env x = pure x) (h : tScI X.w wi g tt te (own.map (·.2)) σ H Q)
    (hRR : ∀ D C t m A, Inv X pins σ A t → Q (.ref D) A → t.heap.Ns C m → FpOk X pins A C → compPost (model X.prog X.w) X.A X.xe us Qf (.ref D) C (.ok .next) t) :
    wpAny (model X.prog X.w) X.A (comprehension (.SetComp elt [⟨tg, iter, ifs, 0⟩] scope pos) scope X.env pos' (newSet (.type "set")) false (eval iter X.env) us) Qf X.xe s := by
  have frees : ∀ y ∈ scope.names, y.2 = .free → ∃ c, X.env.cells.lookup y.1 = some c := fun y hy e => (ok.free y hy e).elim (fun k => I.ok.has _ (.inl k)) fun k => I.ok.has _ (.inr k)
  refine wpAny_comprehension_free (use := us) rfl hs (closure_ok frees) ok.kind (fun y hy e => by rw [ok.uniq y hy, e]) (thn (hi.run pins s σ H _ I h) fun xw s1 hx => thn hx fun itw s2 k2 => ?_)
  obtain ⟨it, fp, tn, J, H2, e, J2, T, tn2, fp2, q⟩ := k2
  subst e
  refine PpSet.newSet_ok (newEnv_comp ?_)
  generalize eD : s2.heap.objs.size = D
  have nD : H2 D = none := J2.hok.fresh (Nat.le_of_eq eD)
  obtain ⟨W, ⟨m0, wz⟩, trn⟩ := q D nD
  -- the new list
  generalize es3 : ({ s2 with heap := s2.heap.push { cls := .type "set", dict := none, data := .set #[] 0 (.fresh 0 0 (!X.w.params.followText "set-order")) } } : Shared) = s3
  have J3 : Inv X pins σ (upd H2 D (SetO X.w D (fun _ => false) 0)) s3 := by
    rw [← es3]
    refine J2.laid (t' := s2.toks) (fun b o e => Heap.get?_push_of_some _ e) (Nat.le_of_eq eD) ?_
    rw [← eD]
    exact setO_new (setR_fresh X.w)
  have e3 : s3.heap = s2.heap.push { cls := .type "set", dict := none, data := .set #[] 0 (.fresh 0 0 (!X.w.params.followText "set-order")) } := by rw [← es3]
  have szs : ∀ b ∈ fp, b < s2.heap.objs.size := fun b hb => by
    obtain ⟨o, e, _⟩ := T.obj _ _ tn2 b hb
    exact Heap.lt_size e
  have fp3 : ∀ b ∈ fp, FpOk X pins (upd H2 D (SetO X.w D (fun _ => false) 0)) b ∧ b < s3.heap.objs.size := fun b hb => by
    have lth := szs b hb
    refine ⟨⟨?_, (fp2 b hb).2⟩, by rw [e3, Heap.size_push]; exact Nat.lt_succ_of_lt lth⟩
    rw [upd_ne (by rw [← eD]; exact Nat.ne_of_lt lth)]
    exact (fp2 b hb).1
  have tn3 : tn 0 s3.heap := T.keep _ _ _ tn2 fun b _ o e => by rw [e3]; exact Heap.get?_push_of_some _ e
  have J4 := block_start J3 ok hN fp3
  have pgs := hg s3 (upd H2 D (SetO X.w D (fun _ => false) 0)) s3.heap.objs.size (cellsFrom (s3.heap.objs.size + 1) scope.names (cloFrom X.env.cells scope.names [])) fp
  have pts := ht s3 (upd H2 D (SetO X.w D (fun _ => false) 0)) s3.heap.objs.size (cellsFrom (s3.heap.objs.size + 1) scope.names (cloFrom X.env.cells scope.names [])) fp
  have pes := he s3 (upd H2 D (SetO X.w D (fun _ => false) 0)) s3.heap.objs.size (cellsFrom (s3.heap.objs.size + 1) scope.names (cloFrom X.env.cells scope.names [])) fp
  show codeAny _ _ (.compStart (.SetComp elt [⟨tg, iter, ifs, 0⟩] scope pos) 0 (.ref it) (.ref D) (compEnvC scope (cellsFrom (s3.heap.objs.size + 1) scope.names (cloFrom X.env.cells scope.names [])) s3.heap.objs.size X.env)) (compPost (model X.prog X.w) X.A X.xe us Qf (.ref D) s3.heap.objs.size) { s3 with heap := pushCells (s3.heap.push { cls := .type "dict", data := .dict #[] }) scope.names }
  have ffp : ∀ b ∈ fp, (upd H2 D (SetO X.w D (fun _ => false) 0)) b = none := fun b hb => (fp3 b hb).1.1
  generalize ece : compEnvC scope (cellsFrom (s3.heap.objs.size + 1) scope.names (cloFrom X.env.cells scope.names [])) s3.heap.objs.size X.env = ce at J4 pgs pts pes ⊢
  have cL : ce.locals = s3.heap.objs.size := by subst ece; rfl
  generalize eH3 : upd H2 D (SetO X.w D (fun _ => false) 0) = H3 at J3 J4 pgs pts pes wz ffp fp3
  generalize es4 : ({ s3 with heap := pushCells (s3.heap.push { cls := .type "dict", data := .dict #[] }) scope.names } : Shared) = s4 at J4 ⊢
  have tn4 : tn 0 s4.heap := T.keep _ _ _ tn3 fun b _ o e => by rw [← es4]; exact pushCells_keeps _ _ _ _ (Heap.get?_push_of_some _ e)
  have stt : ∀ {σ' : L2.St} {H' : Hp} {s' : Shared}, Inv (X.blk s3 H3 scope ce fp) [] σ' H' s' → (∀ b ∈ fp, H' b = none) → ∀ b ∈ fp, FpOk (X.blk s3 H3 scope ce fp) [] H' b := fun {σ' H' s'} I' hn b hb =>
    ⟨hn b hb, (I'.ok.exf b hb).1, I'.ok.exfs b hb, .inl hb, fun x c e => (I'.ok.exf b hb).2 x c e, fun p hp => absurd (show p ∈ ([] : List (Addr × Obj)) ++ [] from hp) (by simp)⟩
  have lp : codeAny (model X.prog X.w) X.A (.compLoop (.SetComp elt [⟨tg, iter, ifs, 0⟩] scope pos) 0 (.ref it) (.ref D) ce) (compPost (model X.prog X.w) X.A X.xe us Qf (.ref D) s3.heap.objs.size) s4 := by
    refine PpSet.compLoopS_any (fun n s' => ∃ i H', Inv (X.blk s3 H3 scope ce fp) [] (wipe σ (own.map (·.2))) H' s' ∧ tn i s'.heap ∧ (∀ b ∈ fp, H' b = none) ∧ W i n H') ?_ m0 ⟨0, H3, J4, tn4, ffp, wz⟩
    rintro n s5 ⟨i, H5, J5, tn5, n5, w5⟩
    rcases trn i n H5 w5 with ⟨stop, qe⟩ | ⟨go, Nx, hNx, stp⟩
    · have tdone := T.done (X.blk s3 H3 scope ce fp) rfl rfl rfl hc i [] s5 _ H5 (fun _ _ => False) J5 (stt J5 n5) tn5 stop
      refine thnF tdone fun r s6 ⟨hr, J6⟩ => ?_
      subst hr
      -- back in the def's context
      have J7 : Inv X pins σ H5 s6 := J3.call' (ch := fp) J6.os J6.base J6.hok J6.bare fun b hb => ⟨(fp3 b hb).1.2.2.2.1, (fp3 b hb).1.2.1, (fp3 b hb).1.2.2.2.2.1, (fp3 b hb).1.2.2.2.2.2⟩
      have nCe : H5 s3.heap.objs.size = none := by
        have z : H5 ce.locals = none := J6.free
        rw [cL] at z
        exact z
      obtain ⟨m, hn, _⟩ := J6.loc
      have hn : s6.heap.Ns ce.locals m := hn
      rw [cL] at hn
      exact hRR D s3.heap.objs.size s6 m H5 J7 qe hn (J3.fpOk (Nat.le_refl _) nCe)
    · have titem := T.item (X.blk s3 H3 scope ce fp) rfl rfl rfl hc i [] s5 _ H5 (fun _ _ => False) J5 (stt J5 n5) tn5 go
      refine thnF titem fun r s6 ⟨u, hr, k6⟩ => ?_
      subst hr
      refine thnF k6 fun _ s7 ⟨x, H7, J7, r7, y7, tn7, n7⟩ => ?_
      have J7' := J7.pinned (stt J7 n7) (T.obj _ _ tn7)
      refine thnF (pgs.run _ s7 _ H7 x u _ J7' r7 (stp x H7 y7)) fun _ s8 ⟨σ8, H8, J8, hw8, q8⟩ => ?_
      refine thnF (pts.run _ s8 σ8 H8 _ J8 q8) fun b s9 ⟨H9, J9, q9⟩ => ?_
      -- the turn's end
      have fend : ∀ {s' : Shared} {H' : Hp}, Inv (X.blk s3 H3 scope ce fp) ([] ++ pinsAt fp s7.heap) σ8 H' s' → Nx H' → ∃ m, m < n ∧ ∃ i H', Inv (X.blk s3 H3 scope ce fp) [] (wipe σ (own.map (·.2))) H' s' ∧ tn i s'.heap ∧ (∀ b ∈ fp, H' b = none) ∧ W i m H' := fun {s' H'} I' nxt => by
        obtain ⟨mm, lem, ww⟩ := hNx H' nxt
        have pinz : ∀ b ∈ fp, ∀ o, s7.heap.get? b = some o → s'.heap.get? b = some o ∧ H' b = none := fun b hb o e =>
          let z := I'.pin (b, o) (List.mem_append_right _ (List.mem_append_right _ (mem_pinsAt hb e)))
          ⟨z.1, z.2.1⟩
        have lel : (wipe σ (own.map (·.2))).length = σ8.length := by rw [← hw8, wipe_length]
        refine ⟨mm, lem, i + 1, H', (I'.unpinned (pins := [])).weak lel (fun j v e => ?_), T.keep _ _ _ tn7 fun b hb o e => (pinz b hb o e).1, fun b hb => ?_, ww⟩
        · rw [← hw8] at e
          exact (wipe_some e).1
        · obtain ⟨o, e, _⟩ := T.obj _ _ tn7 b hb
          exact (pinz b hb o e).2
      cases b with
      | false =>
        simp only [Bool.false_eq_true, if_false] at q9 ⊢
        exact fend J9 q9
      | true =>
        simp only [if_true] at q9 ⊢
        refine thnF (pes.run _ s9 σ8 H9 _ J9 q9) fun z s10 ⟨yv, H10, J10, r10, cb, S0, n0, ey, hD10, hz10, nxt⟩ => ?_
        subst ey
        obtain ⟨tk, ez⟩ := (show ∃ tk, z = Value.int cb tk from r10); cases ez
        exact addI_ok (X := X.blk s3 H3 scope ce fp) J10 hD10 hz10 fun s11 J11 => fend J11 nxt
  exact PpSet.codeAny_compStart_set lp (T.self X.A 0 _ _ _ tn4 lp)
theorem pe_scI {elt tg iter : Expr} {ifs : List Expr} {scope : Scope} {own : List (PySem.Str × Nat)} {pos : Pos} {wi : TI} {g : TG} {tt : TT} {te : TE} (hc : X.calm = true) (hN : X.N.Nodup) (hi : PI X tg iter wi) (ok : BlkOk X.N X.env.scope scope own) (hg : ∀ (t : Shared) (H : Hp) (C : Addr) (cl : List (PySem.Str × Addr)) (fp : List Addr), PG (X.blk t H scope (compEnvC scope cl C X.env) fp) tg g)
    (ht : ∀ (t : Shared) (H : Hp) (C : Addr) (cl : List (PySem.Str × Addr)) (fp : List Addr), PTs (X.blk t H scope (compEnvC scope cl C X.env) fp) ifs tt) (he : ∀ (t : Shared) (H : Hp) (C : Addr) (cl : List (PySem.Str × Addr)) (fp : List Addr), PE (X.blk t H scope (compEnvC scope cl C X.env) fp) elt te) (hs : ∀ x, foldedSetIterable iter X.env x = pure x := by intro _; rfl) :
    PE X (.SetComp elt [⟨tg, iter, ifs, 0⟩] scope pos) (tScI X.w wi g tt te (own.map (·.2))) := by
  refine ⟨fun pins s σ H Q I h => ?_⟩
  rw [PpSet.eval_SetComp]
  exact scI_core hc hN I hi ok hg ht he hs h fun D C s' m A I' q hn f => ⟨m, hn, fun h2 sb => let ⟨f0, f1, _, f3, f4, f5⟩ := f; ⟨.ref D, A, I'.turned (t' := s'.toks) (fun b o hb e => (sb.2 b hb).trans e) f0 f1 f3 f4 f5, rfl, q⟩⟩
end
end PyD

set_option Elab.async false
set_option linter.all false
set_option maxRecDepth 100000
/-! set comprehensions of numbers, by data -/
namespace PyD
open PySem L2 L2X PyProof.Rows
def intE : D → Out D
  | .int n => .ok (.int n)
  | _ => .bad
theorem intE_ok {d e : D} (h : intE d = .ok e) : ∃ z, d = .int z ∧ e = .int z := by
  cases d <;> first | (cases h; exact ⟨_, rfl, rfl⟩) | cases h
theorem intE_ne (d : D) (x : Exc) : intE d ≠ .exc x := by
  cases d <;> (intro h; cases h)
def numsOf : List D → List Int
  | [] => []
  | .int n :: l => n :: numsOf l
  | _ :: l => numsOf l
def setL (ds : List D) : D := .set (.ints (dd (numsOf ds)))
theorem numsOf_map : ∀ ns : List Int, numsOf (ns.map D.int) = ns
  | [] => rfl
  | n :: ns => by rw [List.map_cons]; show n :: numsOf _ = _; rw [numsOf_map ns]
theorem setL_ints (ns : List Int) : setL (ns.map D.int) = .set (.ints (dd ns)) := by unfold setL; rw [numsOf_map]
theorem dd_len : ∀ ns : List Int, (dd ns).length ≤ ns.length
  | [] => Nat.le_refl _
  | n :: ns => by
    unfold dd
    rw [List.length_cons, List.length_cons]
    exact Nat.succ_le_succ (Nat.le_trans (List.length_filter_le _ _) (dd_len ns))
theorem dd_snoc (ns : List Int) (z : Int) : (dd (ns ++ [z])).length = if z ∈ ns then (dd ns).length else (dd ns).length + 1 := by
  by_cases q : z ∈ ns
  · rw [if_pos q]
    refine nodup_len (dd_nodup _) (dd_nodup _) fun k => ?_
    rw [mem_dd, mem_dd, List.mem_append, List.mem_singleton]
    exact ⟨fun h => h.elim id fun e => e ▸ q, .inl⟩
  · rw [if_neg q]
    rw [nodup_len (a := dd (ns ++ [z])) (b := z :: dd ns) (dd_nodup _) (List.nodup_cons.mpr ⟨fun h => q (mem_dd.mp h), dd_nodup _⟩) fun k => ?_]
    · rfl
    · rw [mem_dd, List.mem_append, List.mem_singleton, List.mem_cons, mem_dd]
      exact Or.comm
def M.sc (it : Env → Out (List D × Env)) (tg : D → Env → Out Env) (c : Env → Out (Bool × Env)) (el : Env → Out (D × Env)) (own : List Nat) : Env → Out (D × Env) := fun ρ =>
  (it ρ).bind fun p => if p.1.length ≤ 1000 then (M.lcAux tg c (M.map intE el) own p.1 [] (M.wipeE p.2 own)).bind fun q => .ok (setL q.1, M.back p.2 q.2 own) else .bad
section
variable {ι : Type} {C : Ctx ι} {μ : List Md} {e a b c tg : Expr} {es : List Expr} {pos p p2 p3 q : Pos} {x : Str} {g : G} {B : Base} {F H : Hp} {ρ : Env} {σ : L2.St}
/-- what a set comprehension leaves to show -/
theorem sc_read {scope : Scope} {vs as : List (Option Str)} {own : List Nat} {wi : TI} {tgr : TG} {tt : TT} {te : TE} {mi : Env → Out (List D × Env)} {f : D → Env → Out Env} {mc : Env → Out (Bool × Env)} {me : Env → Out (D × Env)} {tl : List Nat}
    (si : ∀ B F H ρ σ R', Rel C.g B F H μ ρ σ → Post C B F H μ σ (mi ρ) (fun ds _ F' H' => ∀ J, Iter C.g B J F' ds → R' J H') → wi σ H R')
    (sg : ∀ B F H ρ σ v d (Q : L2.St → Hp → Prop), PinsW B [] → Rel C.g B F H μ ρ σ → Is C.g F v d → ∀ ρ', f d ρ = .ok ρ' → (∀ σ', Rel C.g B F H μ ρ' σ' → Off tl σ σ' → Q σ' H) → tgr v σ H Q)
    (st : ∀ B F H ρ σ Q, Rel C.g B F H μ ρ σ → Post (cctx C scope vs as) B F H μ σ (mc ρ) (fun b _ F' H' => Q b H') → tt σ H Q)
    (se : ∀ B F H ρ σ Q, Rel C.g B F H μ ρ σ → Post (cctx C scope vs as) B F H μ σ (me ρ) (fun d _ F' H' => ∀ v, Is C.g F' v d → Q v H') → te σ H Q)
    (ho : ∀ i ∈ own, md μ i = .fz) (htl : ∀ i ∈ tl, i ∈ own) {B : Base} {F H : Hp} {ρ : Env} {σ : L2.St} {Q : VK} (R : Rel C.g B F H μ ρ σ)
    (h : Post C B F H μ σ (M.sc mi f mc me own ρ) (fun d _ F' H' => ∀ a o, H' a = some o → H a = none → F' a = none → (∀ F2, F2 a = some o → Is C.g F2 (.ref a) d) → Q (.ref a) H')) : tScI C.g.w wi tgr tt te own σ H Q := by
  refine si B F H ρ σ _ R ((Post.bnd h).imp fun ds ρ1 F1 H1 R1 S1 k J hJ => ?_)
  by_cases dl : ds.length ≤ 1000
  case neg => simp only [if_neg dl] at k; exact k.elim
  simp only [if_pos dl] at k
  intro D hD
  have hF1 : F1 D = none := (R1.toBx.fresh hD).1
  have h0 : B.H0 D = none := (R1.toBx.fresh hD).2.1
  have hA : D ∉ B.A0 := (R1.toBx.fresh hD).2.2
  have hO1 : ¬ Own μ σ D := R1.new_notOwn hD
  have ownW : ∀ σ', Off own (wipe σ own) σ' → ∀ a, Own μ σ' a ↔ Own μ σ a := fun σ' hoff a => by
    have key : ∀ i, md μ i = .ow → σ'[i]? = σ[i]? := fun i hi => by
      have ni : i ∉ own := fun q => by rw [ho i q] at hi; cases hi
      rw [hoff i ni, wipe_get, if_neg (fun q => ni q.1)]
    constructor
    · rintro ⟨i, hm, e⟩; exact ⟨i, hm, by rw [← key i hm]; exact e⟩
    · rintro ⟨i, hm, e⟩; exact ⟨i, hm, by rw [key i hm]; exact e⟩
  have stepW : ∀ σ', Off own (wipe σ own) σ' → ∀ {F H F' H' : Hp}, Step μ σ' F H F' H' → Step μ σ F H F' H' := fun σ' hoff F H F' H' s =>
    ⟨s.f, fun a o e n => s.h a o e fun q => n ((ownW σ' hoff a).mp q), s.n, s.t⟩
  have offR : Off own (wipe σ own) (wipe σ own) := fun _ _ => rfl
  let Inv' : List PyD.D → List PyD.D → Env → Hp → Hp → Prop := fun rest accD ρ' F' H' => Rel C.g (B_ B) F' H' μ ρ' (wipe σ own) ∧ Step μ σ F1 H1 F' H' ∧ F' D = none ∧
    (∃ ns : List Int, accD = ns.map PyD.D.int ∧ ns.length + rest.length ≤ ds.length ∧ ∃ S n, H' D = some (SetO C.g.w D S n) ∧ (∀ k, S k = true ↔ k ∈ ns) ∧ n = (dd ns).length) ∧
    Post C B F1 H1 μ σ ((M.lcAux f mc (M.map intE me) own rest accD ρ').bind fun q => .ok (setL q.1, M.back ρ1 q.2 own)) (fun d _ F' H' => ∀ a o, H' a = some o → H a = none → F' a = none → (∀ F2, F2 a = some o → Is C.g F2 (.ref a) d) → Q (.ref a) H')
  refine ⟨fun i m H' => i + m = ds.length ∧ ∃ F' ρ' accD, Inv' (ds.drop i) accD ρ' F' H', ⟨ds.length, Nat.zero_add _, F1, M.wipeE ρ1 own, [], ?_⟩, ?_⟩
  · exact ⟨(R1.wiped ho).newH hD _, Step.newH hD, hF1, ⟨[], rfl, by simp, fun _ => false, 0, upd_same, (by intro k; simp), rfl⟩, k⟩
  rintro i m H' ⟨him, F', ρ', accD, R', S', hF', ⟨ns, ea, nl, S, n, hacc, hS, hn'⟩, k⟩
  have bx : Bx B F' H' := ⟨R'.sub, R'.ext, R'.keep, R'.old, R'.aa⟩
  cases hd : ds[i]? with
  | none =>
    have hle : ds.length ≤ i := List.getElem?_eq_none_iff.mp hd
    have hi : i = ds.length := by omega
    subst hi
    refine .inl ⟨hJ.stop F' H' S'.f bx, ?_⟩
    rw [List.drop_length] at k
    refine k F' H' ⟨bx, ?_, R1.lm, fun i d e => ?_, R1.sep, R1.pin, fun i hi => ?_⟩ S' D _ hacc (S1.fresh hD) hF' (fun F2 e2 => ?_)
    rotate_right 1
    · rw [ea, setL_ints]; exact .set ⟨S, n, e2, fun k => by rw [hS k, mem_dd], dd_nodup ns, hn'.symm⟩
    · rw [back_length]; have := R'.lr; rw [wipe_length] at this; exact this
    · rw [back_get (by have := R'.lr; rw [wipe_length] at this; rw [this]; exact R1.lr)] at e
      by_cases q : i ∈ own
      · rw [if_pos q] at e
        obtain ⟨v, y1, y2⟩ := R1.vars i d e
        rw [ho i q] at y2 ⊢
        exact ⟨v, y1, Is.mono S'.f y2⟩
      · rw [if_neg q] at e
        obtain ⟨v, y1, y2⟩ := R'.vars i d e
        rw [wipe_get, if_neg (fun z => q z.1)] at y1
        exact ⟨v, y1, y2⟩
    · obtain ⟨d, e⟩ := R'.there i hi
      have ni : i ∉ own := fun q => by rw [ho i q] at hi; cases hi
      exact ⟨d, by rw [back_get (by have := R'.lr; rw [wipe_length] at this; rw [this]; exact R1.lr), if_neg ni]; exact e⟩
  | some d =>
    obtain ⟨hlt, hget⟩ := List.getElem?_eq_some_iff.mp hd
    have hdrop : ds.drop i = d :: ds.drop (i + 1) := by rw [List.drop_eq_getElem_cons hlt, hget]
    rw [hdrop] at k
    obtain ⟨hgo, hy⟩ := hJ.go F' H' S'.f bx i d hd
    refine .inr ⟨hgo, fun H2 => ∃ F2 ρ2 acc2, Inv' (ds.drop (i + 1)) acc2 ρ2 F2 H2, ?_, fun x H2 hx => ?_⟩
    · rintro H2 ⟨F2, ρ2, acc2, h⟩
      exact ⟨m - 1, by omega, by omega, F2, ρ2, acc2, h⟩
    · obtain ⟨F2, hv, hF⟩ := hy x H2 hx
      have key : Rel C.g (B_ B) F2 H2 μ ρ' (wipe σ own) ∧ Step μ σ F1 H1 F2 H2 ∧ F2 D = none ∧ H2 D = some (SetO C.g.w D S n) := by
        rcases hF with ⟨rfl, rfl⟩ | ⟨p, o, hn, rfl, rfl⟩
        · exact ⟨R', S', hF', hacc⟩
        · have hp := (R'.toBx.fresh hn).1
          have np : D ≠ p := ne_of_none hacc hn
          exact ⟨R'.new hn o, S'.trans (Step.new hp hn), by rw [upd_ne np]; exact hF', by rw [upd_ne np]; exact hacc⟩
      obtain ⟨R2, S2, hF2, hacc2⟩ := key
      unfold M.lcAux at k
      cases ef : f d ρ' with
      | exc x => simp only [ef] at k; exact k.elim
      | bad => simp only [ef] at k; exact k.elim
      | ok ρ2 =>
        simp only [ef] at k
        refine sg (B_ B) F2 H2 ρ' (wipe σ own) x d _ (fun p hp => by cases hp) R2 hv ρ2 ef fun σ3 R3 off3 => ?_
        have off : Off own (wipe σ own) σ3 := fun j hj => off3 j fun q => hj (htl j q)
        have wp : wipe σ3 own = wipe σ own := by
          refine List.ext_getElem? fun j => ?_
          have hl3 : σ3.length = σ.length := by rw [← R3.lm, R1.lm]
          rw [wipe_get, wipe_get, hl3]
          by_cases q : j ∈ own ∧ j < σ.length
          · rw [if_pos q, if_pos q]
          · rw [if_neg q, if_neg q]
            by_cases q2 : j ∈ own
            · have : ¬ j < σ.length := fun z => q ⟨q2, z⟩
              rw [List.getElem?_eq_none (by omega), List.getElem?_eq_none (by omega)]
            · rw [off j q2, wipe_get, if_neg q]
        refine ⟨wp, ?_⟩
        refine st (B_ B) F2 H2 ρ2 σ3 _ R3 ?_
        cases em : mc ρ2 with
        | exc x => simp only [em] at k; exact k.elim
        | bad => simp only [em] at k; exact k.elim
        | ok pb =>
          obtain ⟨b, ρ3⟩ := pb
          simp only [em] at k
          intro F4 H4 R4 S4
          have S4' := stepW σ3 off S4
          have hF4 : F4 D = none := by rw [S4.n D _ hacc2]; exact hF2
          have hacc4 : H4 D = some (SetO C.g.w D S n) := S4.h D _ hacc2 fun q => hO1 ((ownW σ3 off D).mp q)
          cases b with
          | false =>
            refine ⟨F4, M.wipeE ρ3 own, accD, ?_, S2.trans S4', hF4, ⟨ns, ea, by simp only [List.length_cons, hdrop] at nl; omega, S, n, hacc4, hS, hn'⟩, k⟩
            have := R4.wiped (own := own) ho
            rw [wp] at this
            exact this
          | true =>
            refine se (B_ B) F4 H4 ρ3 σ3 _ R4 ?_
            cases ee : me ρ3 with
            | exc x => simp only [M.map, ee] at k; exact k.elim
            | bad => simp only [M.map, ee] at k; exact k.elim
            | ok py =>
              obtain ⟨y, ρ5⟩ := py
              cases ey : intE y with
              | exc x => exact absurd ey (intE_ne y x)
              | bad => simp only [M.map, ee, Out.bind, ey] at k; exact k.elim
              | ok y' =>
              obtain ⟨z, rfl, rfl⟩ := intE_ok ey
              simp only [M.map, ee, Out.bind, ey] at k
              by_cases hsz : accD.length < 100000
              · simp only [if_pos hsz] at k
                intro F5 H5 R5 S5 v hv
                cases hv
                have S5' := stepW σ3 off S5
                have hF5 : F5 D = none := by rw [S5.n D _ hacc4]; exact hF4
                have hacc5 : H5 D = some (SetO C.g.w D S n) := S5.h D _ hacc4 fun q => hO1 ((ownW σ3 off D).mp q)
                simp only [List.length_cons, hdrop] at nl
                refine ⟨z, S, n, rfl, hacc5, by unfold scanBound; have := dd_len ns; omega, F5, M.wipeE ρ5 own, accD ++ [.int z], ?_, ?_, hF5, ⟨ns ++ [z], by rw [ea, List.map_append]; rfl, by rw [List.length_append, List.length_singleton]; omega, _, _, upd_same, fun k => ?_, ?_⟩, k⟩
                · have := R5.wiped (own := own) ho
                  rw [wp] at this
                  exact this.free hF5 (fun q => hO1 ((ownW _ offR D).mp q)) h0 hA
                · have S := (S2.trans S4').trans S5'
                  exact ⟨S.f, fun a o e n => by
                    have x : a ≠ D := fun x => by subst x; rw [hD] at e; cases e
                    rw [upd_ne x]; exact S.h a o e n, S.n, fun a o e => by
                    have x : a ≠ D := fun x => by subst x; rw [hD] at e; cases e
                    rw [upd_ne x]; exact S.t a o e⟩
                · rw [Bool.or_eq_true, decide_eq_true_eq, hS k, List.mem_append, List.mem_singleton]
                · rw [dd_snoc ns z, hn']
                  by_cases q : S z = true
                  · rw [if_pos q, if_pos ((hS z).mp q)]
                  · rw [if_neg q, if_neg fun x => q ((hS z).mpr x)]
              · simp only [if_neg hsz] at k; exact k.elim

/-- a new object, shared at once -/
theorem Post.share2 {B : Base} {F H : Hp} {ρ : Env} {σ : L2.St} {Q : VK} (R : Rel C.g B F H μ ρ σ) {o : Out (D × Env)} (h : Post C B F H μ σ o (fun d _ F' H' => ∀ v, Is C.g F' v d → Q v H')) :
    Post C B F H μ σ o (fun d _ F' H' => ∀ a o, H' a = some o → H a = none → F' a = none → (∀ F2, F2 a = some o → Is C.g F2 (.ref a) d) → Q (.ref a) H') := by
  match o, h with
  | .ok (d, ρ1), h =>
    intro F1 H1 R1 S1 a o h1 h2 h3 h4
    have le : Le F1 (upd F1 a o) := Le.upd h3
    have h0 := (R.toBx.fresh h2)
    refine h (upd F1 a o) H1 ⟨⟨fun b u e => ?_, R1.ext.trans le, R1.keep, fun b u e n => ?_, R1.aa⟩, R1.lr, R1.lm, fun i d' e => ?_, R1.sep, R1.pin, R1.there⟩ ⟨S1.f.trans le, S1.h, fun b u e => ?_, S1.t⟩ (.ref a) (h4 _ upd_same)
    · by_cases x : b = a
      · subst x; rw [upd_same] at e; cases e; exact h1
      · rw [upd_ne x] at e; exact R1.sub b u e
    · have x : b ≠ a := fun x => by subst x; rw [h0.2.1] at e; cases e
      rw [upd_ne x]; exact R1.old b u e n
    · obtain ⟨v, y1, y2⟩ := R1.vars i d' e
      refine ⟨v, y1, ?_⟩
      cases hm : md μ i with
      | fz => rw [hm] at y2; exact Is.mono le y2
      | an =>
        rw [hm] at y2
        rcases y2 with y2 | ⟨b, u, z1, z2, z3, z4⟩
        · exact .inl (Is.mono le y2)
        · exact .inr ⟨b, u, z1, z2, z3, z4.mono le⟩
      | ow =>
        rw [hm] at y2
        obtain ⟨b, u, rfl, z1, z2, z3, z4⟩ := y2
        have n : b ≠ a := fun n => by
          subst n
          exact R.new_notOwn h2 ⟨i, hm, y1⟩
        exact ⟨b, u, rfl, z1, z2.mono le, by rw [upd_ne n]; exact z3, z4⟩
    · have x : b ≠ a := fun x => by subst x; rw [h2] at e; cases e
      rw [upd_ne x]; exact S1.n b u e
  | .exc x, h => exact h
  | .bad, h => exact h
/-- {elt for tg in it if ..} -/
theorem x_sc (ok : C.Ok) {it elt : Expr} {ifs : List Expr} {scope : Scope} (vs as : List (Option Str)) (own : List (Str × Nat)) {mi : Env → Out (List D × Env)} {f : D → Env → Out Env} {mc : Env → Out (Bool × Env)} {me : Env → Out (D × Env)} {tl : List Nat}
    (hi : DI C μ tg it mi) (k : (cctx C scope vs as).Ok → DG (cctx C scope vs as) μ tg μ f tl ∧ DTs (cctx C scope vs as) μ ifs mc ∧ DE (cctx C scope vs as) μ elt me)
    (h1 : visB (rl scope C.sc) vs C.N = true := by kernel_rfl!) (h2 : asgB scope (rl scope C.sc) as C.N = true := by kernel_rfl!) (h3 : blkC C.N C.sc scope own = true := by kernel_rfl!)
    (ho : ∀ i ∈ own.map (·.2), md μ i = .fz := by decide) (htl : ∀ i ∈ tl, i ∈ own.map (·.2) := by decide)
    (hs : ∀ j x, foldedSetIterable it (C.X j).env x = pure x := by intro _ _; rfl) : DE C μ (.SetComp elt [⟨tg, it, ifs, 0⟩] scope pos) (M.sc mi f mc me (own.map (·.2))) := by
  have hb := blkV_by ok h1 h2
  obtain ⟨hg, ht, he⟩ := k (cctx_ok ok hb)
  have hblk : ∀ j, BlkOk (C.X j).N (C.X j).env.scope scope own := fun j => by rw [ok.hN j, ok.hsc j]; exact blkOk_by h3
  obtain ⟨wi, pi, si⟩ := hi
  obtain ⟨tgr, pg, sg⟩ := hg
  obtain ⟨tt, pt, st⟩ := ht
  obtain ⟨te, pe, se⟩ := he
  refine ⟨tScI C.g.w wi tgr tt te (own.map (·.2)), fun j => ?_, fun B F H ρ σ Q R h => sc_read (own := own.map (·.2)) si sg st se ho htl R (Post.share2 R h)⟩
  rw [← ok.hw j]
  exact pe_scI (ok.calm j) (by rw [ok.hN j]; exact ok.nd) (pi j) (hblk j) (fun s H C cl fp => pg (j, s, H, C, cl, fp)) (fun s H C cl fp => pt (j, s, H, C, cl, fp)) (fun s H C cl fp => pe (j, s, H, C, cl, fp)) (hs j)
end
end PyD

set_option Elab.async false
set_option linter.all false
set_option maxRecDepth 100000
/-! tuple(range(a, b)), list(range(a, b)) -/
namespace PyD
open PySem L2 L2X PyProof.Rows
section
variable {ι : Type} {C : Ctx ι} {μ : List Md} {e e2 a b c tg : Expr} {es : List Expr} {pos p p2 p3 q : Pos} {x : Str} {g : G} {B : Base} {F H : Hp} {ρ : Env} {σ : L2.St}
def M.rg2 (mk : List D → D) (m n : Env → Out (D × Env)) : Env → Out (D × Env) := fun ρ => (m ρ).bind fun p => (n p.2).bind fun q => match p.1, q.1 with
  | .int a, .int b => if rgOk a b = true then .ok (mk (rgD a b), q.2) else .bad
  | _, _ => .bad
theorem x_tupRg2 (ok : C.Ok) (hm : C.g.mg "tuple" = none) (hm2 : C.g.mg "range" = none) {m n : Env → Out (D × Env)} (h : DE C μ e m) (h2 : DE C μ e2 n) {q1 q2 : Pos} (hg : glB C.sc "tuple" = true := by kernel_rfl!) (hg2 : glB C.sc "range" = true := by kernel_rfl!)
    (na : ∀ j, starEach [.Call (.Name "range" q1) [e, e2] [] q2] (C.X j).env = (false, eval (.Call (.Name "range" q1) [e, e2] [] q2) (C.X j).env) :: starEach [] (C.X j).env := by intro _; rfl)
    (nb : ∀ j, starEach [e, e2] (C.X j).env = (false, eval e (C.X j).env) :: starEach [e2] (C.X j).env := by intro _; rfl) (nc : ∀ j, starEach [e2] (C.X j).env = (false, eval e2 (C.X j).env) :: starEach [] (C.X j).env := by intro _; rfl)
    (hp : ∀ j, (backTo q2 (starEach [e2] (C.X j).env)).any (·.1) = false := by intro _; rfl) :
    DE C μ (.Call (.Name "tuple" p) [.Call (.Name "range" q1) [e, e2] [] q2] [] pos) (M.rg2 .tup m n) := by
  obtain ⟨t, pt, s⟩ := h
  obtain ⟨t2, pt2, s2⟩ := h2
  refine ⟨_, fun j => pe_tupRgX (ok.calm j) (gl ok hg j) (by rw [ok.hm j]; exact hm) (prg_2 (gl ok hg2 j) (by rw [ok.hm j]; exact hm2) (pt j) (pt2 j) (nb j) (nc j) (hp j)) (na j), fun B F H ρ σ Q R h => s B F H ρ σ _ R ((Post.bnd h).imp fun d ρ1 F1 H1 R1 S1 k v hv => s2 B F1 H1 ρ1 σ _ R1 ((Post.bnd k).imp fun d2 ρ2 F2 H2 R2 S2 k v2 hv2 => ?_))⟩
  cases hv with
  | int n =>
    cases hv2 with
    | int l =>
      by_cases q : rgOk n l = true
      · simp only [if_pos q] at k
        exact ⟨n, l, rfl, rfl, rgOk_of q, Post.tup k R2 (IsAll.rg n l)⟩
      · simp only [if_neg q] at k; exact k.elim
    | _ => exact k.elim
  | _ => exact k.elim
theorem x_lstRg2 (ok : C.Ok) (hm : C.g.mg "list" = none) (hm2 : C.g.mg "range" = none) {m n : Env → Out (D × Env)} (h : DE C μ e m) (h2 : DE C μ e2 n) {q1 q2 : Pos} (hg : glB C.sc "list" = true := by kernel_rfl!) (hg2 : glB C.sc "range" = true := by kernel_rfl!)
    (na : ∀ j, starEach [.Call (.Name "range" q1) [e, e2] [] q2] (C.X j).env = (false, eval (.Call (.Name "range" q1) [e, e2] [] q2) (C.X j).env) :: starEach [] (C.X j).env := by intro _; rfl)
    (nb : ∀ j, starEach [e, e2] (C.X j).env = (false, eval e (C.X j).env) :: starEach [e2] (C.X j).env := by intro _; rfl) (nc : ∀ j, starEach [e2] (C.X j).env = (false, eval e2 (C.X j).env) :: starEach [] (C.X j).env := by intro _; rfl)
    (hp : ∀ j, (backTo q2 (starEach [e2] (C.X j).env)).any (·.1) = false := by intro _; rfl) :
    DN C μ (.Call (.Name "list" p) [.Call (.Name "range" q1) [e, e2] [] q2] [] pos) (M.rg2 .lst m n) := by
  obtain ⟨t, pt, s⟩ := h
  obtain ⟨t2, pt2, s2⟩ := h2
  refine ⟨_, fun j => pe_listRg (ok.calm j) (gl ok hg j) (by rw [ok.hm j]; exact hm) (prg_2 (gl ok hg2 j) (by rw [ok.hm j]; exact hm2) (pt j) (pt2 j) (nb j) (nc j) (hp j)) (na j), fun B F H ρ σ Q R h => s B F H ρ σ _ R ((Post.bnd h).imp fun d ρ1 F1 H1 R1 S1 k v hv => s2 B F1 H1 ρ1 σ _ R1 ((Post.bnd k).imp fun d2 ρ2 F2 H2 R2 S2 k v2 hv2 => ?_))⟩
  cases hv with
  | int n =>
    cases hv2 with
    | int z =>
      by_cases q : rgOk n z = true
      · simp only [if_pos q] at k
        exact ⟨n, z, rfl, rfl, rgOk_of q, fun l hl => Post.lstN (Q := Q) (k.imp fun d _ F' H' R2 S3 k a o h1 h2 h3 h4 => k a o h1 (S1.fresh (S2.fresh h2)) h3 h4) R2 hl (IsAll.rg n z)⟩
      · simp only [if_neg q] at k; exact k.elim
    | _ => exact k.elim
  | _ => exact k.elim
end
end PyD

set_option Elab.async false
set_option linter.all false
set_option maxRecDepth 100000
set_option maxHeartbeats 4000000
/-! a tuple, some times over -/
namespace PyD
open PySem PySem.Spec L2 L2X PyProof.Rows
theorem mul_tup1 (l : Addr) (items : Array Value) (n : Nat) (dd : Option Addr) (sl : Array (Option Value)) (u : Tok) :
    Meets (Builtin.«tuple.__mul__» ⟨[.ref l, .int 1 u], []⟩) (fun _ R s => s.heap.get? l = some { cls := .type "tuple", dict := dd, data := .seq items n, slots := sl } ∧ R (.ok (.ret (Value.ref l))) s) :=
  .of_wp fun prog w A R s h => by
    obtain ⟨hp, g, d, tk, os⟩ := s
    obtain ⟨hl, h⟩ := h
    have f1 := AutoSeq1.idx_int
    wp_walk using wpAny_loadPart' hl
    repeat (first
      | (refine wpAny_ite_false (by decide) ?_; wp_walk using wpAny_loadPart' hl)
      | (refine wpAny_ite_true (by simp) ?_; wp_walk using wpAny_loadPart' hl))
    exact ⟨_, rfl, h⟩
theorem mul_tup0 (l : Addr) (items : Array Value) (n : Nat) (dd : Option Addr) (sl : Array (Option Value)) (x : Int) (u : Tok) (c0 : (decide (x < -(2 ^ 63)) || decide (x ≥ 2 ^ 63)) = false) (c1 : (items.isEmpty || x == 1) = false) (c2 : (decide (x ≤ 0) || items.isEmpty) = true) :
    Meets (Builtin.«tuple.__mul__» ⟨[.ref l, .int x u], []⟩) (fun _ R s => s.heap.get? l = some { cls := .type "tuple", dict := dd, data := .seq items n, slots := sl } ∧
      R (.ok (.ret (Value.ref s.heap.objs.size))) { s with heap := s.heap.push { cls := Value.type "tuple", data := Data.seq #[] }, toks := s.toks }) :=
  .of_wp fun prog w A R s h => by
    obtain ⟨hp, g, d, tk, os⟩ := s
    obtain ⟨hl, h⟩ := h
    have f1 := AutoSeq1.idx_int
    wp_walk using wpAny_loadPart' hl
    repeat (first
      | (refine wpAny_ite_false (decide_eq_false (by rw [c0]; exact Bool.false_ne_true)) ?_; wp_walk using wpAny_loadPart' hl)
      | (refine wpAny_ite_false (decide_eq_false (by rw [c1]; exact Bool.false_ne_true)) ?_; wp_walk using wpAny_loadPart' hl)
      | (refine wpAny_ite_true (decide_eq_true c2) ?_; wp_walk using wpAny_loadPart' hl))
    exact ⟨_, rfl, h⟩
def rMulT (K : PySem.W.Frag) : R2 := fun x y H Q => ∃ l k xs, x = .ref l ∧ y = .int k ∧ SqT K H l xs ∧ xs ≠ [] ∧ -1000 ≤ k ∧ k ≤ 1000 ∧ xs.length ≤ 1000 ∧ (k = 1 → Q (.ref l) H) ∧ (k ≠ 1 → NewT (List.replicate k.toNat xs).flatten H Q)
theorem op_mulT {X : Cx} : OpR X (binaryOp .Mult) (rMulT X.K) := by
  intro pins s σ H x y v u Q I rx ry h
  obtain ⟨l, k, xs, rfl, rfl, hT, ne, k1, k2, hz, q1, q2⟩ := h
  cases rx
  obtain ⟨t, rfl⟩ := ry
  obtain ⟨its, r, ⟨⟨cls, dd, data, sl⟩, ho, hc, n, hd⟩, hs⟩ := I.tuple hT
  simp only at hc hd
  subst hc hd
  have el : its.length = xs.length := r.length.symm
  have ei : its.toArray.isEmpty = false := by
    cases its with
    | nil => exact absurd (List.length_eq_zero_iff.mp el.symm) ne
    | cons a b => rfl
  have c0 : (decide (k < -(2 ^ 63)) || decide (k ≥ 2 ^ 63)) = false := by rw [decide_eq_false (by omega), decide_eq_false (by omega)]; rfl
  refine wpAny_binaryOp_repeat_ref (T := "tuple") (U := "int") (by decide) ⟨_, ho, rfl⟩ (fun s2 => typeIs_int s2 k t) noFill_tuple_mul F.fills_int_mul F.slot_int_rmul repeat_tuple F.slot_int_index.lookup (call_meets F.slot_int_rmul (typeIs_int s k t) F.entry_int_rmul (F.args_int_rmul_2 _ _) (int_rmul_tuple k t l its.toArray n dd sl) ⟨ho, rfl, ⟨_, ho, rfl⟩, ?_⟩)
  by_cases e1 : k = 1
  · subst e1
    exact call_meets F.slot_tuple_mul ⟨_, ho, rfl⟩ F.entry_tuple_mul (F.args_tuple_mul_2 _ _) (mul_tup1 l its.toArray n dd sl t) ⟨ho, ⟨.ref l, H, I, rfl, q1 rfl⟩⟩
  have q2 := q2 e1
  have c1 : (its.toArray.isEmpty || k == 1) = false := by rw [ei, Bool.false_or]; exact beq_eq_false_iff_ne.mpr e1
  have flen : k.toNat * xs.length ≤ 1000 * 1000 := Nat.mul_le_mul (by omega) hz
  by_cases e0 : k ≤ 0
  · refine call_meets F.slot_tuple_mul ⟨_, ho, rfl⟩ F.entry_tuple_mul (F.args_tuple_mul_2 _ _) (mul_tup0 l its.toArray n dd sl k t c0 c1 (by rw [decide_eq_true e0]; rfl)) ⟨ho, ?_⟩
    have ek : k.toNat = 0 := by omega
    rw [ek] at q2
    exact laidT (s := s) (t := s.toks) I .nil (Nat.zero_le _) q2
  have hm : ((its.toArray.size : Nat) : Int) * k ≤ 1000000 := by
    rw [List.size_toArray, el]
    have a1 : ((xs.length : Nat) : Int) * k ≤ 1000 * k := Int.mul_le_mul_of_nonneg_right (by omega) (by omega)
    omega
  have c2 : (decide (k ≤ 0) || its.toArray.isEmpty) = false := by rw [ei, Bool.or_false]; exact decide_eq_false e0
  have c4 : Builtin.Tuple.tupleTooMany (((its.toArray.size : Nat) : Int) * k) = false := by
    unfold Builtin.Tuple.tupleTooMany
    rw [sizeLine_eq]
    exact decide_eq_false (by omega)
  have sz : (List.replicate k.toNat its).flatten.length ≤ sizeLine := by rw [PyProof.Rows.lm_len_rep_flat, el, sizeLine_eq]; omega
  refine call_meets F.slot_tuple_mul ⟨_, ho, rfl⟩ F.entry_tuple_mul (F.args_tuple_mul_2 _ _) (tuple_mulW l its.toArray n dd sl k t c0 c1 c2 (by omega) c4 (by rw [size_rep, List.size_toArray]; exact sz)) ⟨ho, ?_⟩
  rw [size_rep]
  exact laidT (s := s) (t := s.toks) I (r.rep k.toNat) (by rw [PyProof.Rows.lm_len_rep_flat, sizeLine_eq]; omega) q2
section
variable {ι : Type} {C : Ctx ι}
def mulO2 : D → D → Out D
  | .tup ds, .int k => if ds ≠ [] ∧ -1000 ≤ k ∧ k ≤ 1000 ∧ ds.length ≤ 1000 then .ok (.tup (List.replicate k.toNat ds).flatten) else .bad
  | x, y => mulO x y
def rMul2 (K : PySem.W.Frag) : R2 := fun x y H Q => rMulT K x y H Q ∨ rMulD x y H Q
theorem o_mul2 (ok : C.Ok) (j : ι) : OpR (C.X j) (binaryOp .Mult) (rMul2 C.g.K) := by
  have h := OpR.or (X := C.X j) op_mulT (o_mul (C := C) j)
  rw [ok.hK j] at h
  exact h
theorem s_mul2 : BinS C (rMul2 C.g.K) mulO2 := by
  intro B F H μ ρ σ x y dx dy Q R rx ry h
  have go : mulO2 dx dy = mulO dx dy → rMul2 C.g.K x y H Q := fun e => by
    rw [e] at h
    exact .inr (s_mul B F H μ ρ σ x y dx dy Q R rx ry h)
  match dx, dy, rx, ry, h, go with
  | .tup ds, .int k, rx, ry, h, go =>
    unfold mulO2 at h
    by_cases q : ds ≠ [] ∧ -1000 ≤ k ∧ k ≤ 1000 ∧ ds.length ≤ 1000
    · simp only [if_pos q] at h
      obtain ⟨a, vs, rfl, ha, t⟩ := rx.tup R.sub
      rw [ry.int]
      refine .inl ⟨a, k, vs, rfl, rfl, ha, fun e => q.1 (t.nil_iff.mp e), q.2.1, q.2.2.1, by rw [t.length]; exact q.2.2.2, fun e => ?_, fun _ => Post.tup h R (t.rep _)⟩
      subst e
      have e2 : (List.replicate (1 : Int).toNat ds).flatten = ds := by simp
      rw [e2] at h
      exact h.sc R rx.tupF
    · simp only [if_neg q] at h; exact h.elim
  | .int a, dy, rx, ry, h, go => exact go rfl
  | .bl a, dy, rx, ry, h, go => exact go rfl
  | .str a, dy, rx, ry, h, go => exact go rfl
  | .non, dy, rx, ry, h, go => exact go rfl
  | .lst a, dy, rx, ry, h, go => exact go rfl
  | .dic a b, dy, rx, ry, h, go => exact go rfl
  | .scr a, dy, rx, ry, h, go => exact go rfl
  | .set a, dy, rx, ry, h, go => exact go rfl
  | .obj _ _ _, dy, rx, ry, h, go => exact go rfl
  | .tup a, .bl _, rx, ry, h, go => exact go rfl
  | .tup a, .str _, rx, ry, h, go => exact go rfl
  | .tup a, .non, rx, ry, h, go => exact go rfl
  | .tup a, .lst _, rx, ry, h, go => exact go rfl
  | .tup a, .dic _ _, rx, ry, h, go => exact go rfl
  | .tup a, .scr _, rx, ry, h, go => exact go rfl
  | .tup a, .set _, rx, ry, h, go => exact go rfl
  | .tup a, .tup _, rx, ry, h, go => exact go rfl
  | .tup a, .obj _ _ _, rx, ry, h, go => exact go rfl
end
end PyD


set_option Elab.async false
set_option linter.all false
set_option maxRecDepth 100000
/-! Reasoning over mirrors: errors. -/
namespace PyD
open PySem
section
variable {α β : Type} {X : Exc → Prop} {K : Kt} {ρ : Env} {R : D × Env → Prop} {m : Env → SOut} {me : Env → Out (D × Env)} {ms : Env → Out (List D × Env)} {oa : Env → Out (Arg × Env)} {PX : Exc × Env → Prop}
@[simp ↓] theorem w_raise {mx : Env → Out (Exc × Env)} : (M.raise mx ρ).wp K = (mx ρ).wp (fun p => K.x p.1) K.x := swp_then _ _
@[simp ↓] theorem w_mk0 {c : Str} : (M.mk0 c ρ).wp PX X = PX (⟨c, []⟩, ρ) := (rfl)
@[simp ↓] theorem w_mkA {c : Str} : (M.mkA c ms ρ).wp PX X = (ms ρ).wp (fun p => if p.1.length ≤ 1000 then PX (⟨c, []⟩, p.2) else False) X := by
  unfold M.mkA; rw [wp_bind]; simp only [wp_ite, wp_ok, wp_bad]
@[simp ↓] theorem w_mkI {c : Str} {ps : List Str} : (M.mkI c ps ms ρ).wp PX X = (ms ρ).wp (fun p => if p.1.length = ps.length ∧ p.1.length ≤ 1000 then PX (⟨c, ps.zip p.1⟩, p.2) else False) X := by
  unfold M.mkI; rw [wp_bind]; simp only [wp_ite, wp_ok, wp_bad]
@[simp ↓] theorem w_tryR {l : List Hd} : (M.tryR m l ρ).wp K = (m ρ).wp { K with x := fun x => (catchX x l).wp K } := by
  unfold M.tryR
  cases m ρ <;> rfl
@[simp ↓] theorem w_methA {S : List Nat} {f : D → List D → Out D} : (M.methA S f oa ms ρ).wp R X = (oa ρ).wp (fun p => (get p.1 p.2).wp (fun x => if tagD x ∈ S then (ms p.2).wp (fun q => (get p.1 q.2).wp (fun y => if tagD y = tagD x then (f y q.1).wp (fun d => R (d, q.2)) X else False) X) X else False) X) X := by
  unfold M.methA
  simp only [wp_bind, wp_ite, wp_bad]
  congr 1; funext p
  congr 1; funext x
  congr 1
  congr 1; funext q
  unfold methAK
  simp only [wp_bind, wp_ite, wp_bad, wp_ok]
@[simp ↓] theorem w_sc {it : Env → Out (List D × Env)} {tg : D → Env → Out Env} {c : Env → Out (Bool × Env)} {own : List Nat} : (M.sc it tg c me own ρ).wp R X = (it ρ).wp (fun p => if p.1.length ≤ 1000 then (M.lcAux tg c (M.map intE me) own p.1 [] (M.wipeE p.2 own)).wp (fun q => R (setL q.1, M.back p.2 q.2 own)) X else False) X := by
  unfold M.sc; simp only [wp_bind, wp_ok, wp_ite, wp_bad]
theorem p_setI {ns : List Int} {P : D → Prop} (h : ns.length ≤ 1000) : (setO [.lst (ns.map .int)]).wp P X = P (.set (.ints (L2X.dd ns))) := by
  show ((match ints? (ns.map D.int) with
    | some ns => if ns.length ≤ 1000 then Out.ok (D.set (.ints (L2X.dd ns))) else .bad
    | none => setTO (.lst (ns.map D.int)) (tups? (ns.map D.int))) : Out D).wp P X = _
  rw [ints?_map]
  simp only [if_pos h]
  rfl
theorem p_sortSI {ns : List Int} {P : D → Prop} (h : ns.length < 64) : (sortO3 [.set (.ints ns)]).wp P X = P (.lst ((isort ns).map .int)) := by
  simp only [sortO3, if_pos h]; rfl
theorem p_sortST {ns : List (List Int)} {P : D → Prop} (h : okT ns = true) : (sortO3 [.set (.tups ns)]).wp P X = P (.lst ((isortT ns).map tupI)) := by
  simp only [sortO3, if_pos h]; rfl
@[simp] theorem p_len3I {ns : List Int} {P : D → Prop} : (lenO3 [.set (.ints ns)]).wp P X = P (.int ns.length) := rfl
@[simp] theorem p_len3T {ns : List (List Int)} {P : D → Prop} : (lenO3 [.set (.tups ns)]).wp P X = P (.int ns.length) := rfl
@[simp] theorem p_intE {n : Int} {P : D → Prop} : (intE (.int n)).wp P X = P (.int n) := rfl
@[simp ↓] theorem w_rg2 {mk : List D → D} {n : Env → Out (D × Env)} : (M.rg2 mk me n ρ).wp R X = (me ρ).wp (fun p => (n p.2).wp (fun q => isInt p.1 fun a => isInt q.1 fun b => if rgOk a b = true then R (mk (rgD a b), q.2) else False) X) X := by
  unfold M.rg2
  simp only [wp_bind]
  congr 1; funext p
  congr 1; funext q
  cases p.1 with
  | int n =>
    cases q.1 with
    | int b => simp only [isInt_int, wp_ite, wp_ok, wp_bad]
    | _ => rfl
  | _ => cases q.1 <;> rfl
theorem p_mulT {ds : List D} {k : Int} {P : D → Prop} (h : ds ≠ [] ∧ -1000 ≤ k ∧ k ≤ 1000 ∧ ds.length ≤ 1000) : (mulO2 (.tup ds) (.int k)).wp P X = P (.tup (List.replicate k.toNat ds).flatten) := by
  simp only [mulO2, if_pos h]; rfl
theorem p_mulT1 {d : D} {k : Nat} {P : D → Prop} (h : k ≤ 1000) : (mulO2 (.tup [d]) (.int (k : Int))).wp P X = P (.tup (List.replicate k d)) := by
  rw [p_mulT ⟨by simp, by omega, by omega, by simp⟩, Int.toNat_natCast]
  congr 2
  induction k with
  | zero => rfl
  | succ k ih => rw [List.replicate_succ, List.replicate_succ, List.flatten_cons, ih (by omega)]; rfl
end
end PyD

set_option Elab.async false
set_option linter.all false
set_option maxRecDepth 100000
set_option maxHeartbeats 4000000
namespace PyD
open PySem L2 L2X PyProof.Rows
def topS (i : Nat) : Stmt := PySem.Challenge.pw_moveseen_k03_ways_and_orbits.main.body.getD i (.Pass ⟨0, 0, 0, 0⟩)
abbrev s_law_blocks : Stmt := topS 28
abbrev s_law_composed : Stmt := topS 25
abbrev s_law_round : Stmt := topS 27
abbrev s_law_take : Stmt := topS 19
abbrev s_law_some : Stmt := topS 24
abbrev s_law_candidate : Stmt := topS 29
abbrev s_law_closed : Stmt := topS 26
abbrev s_law_many_given : Stmt := topS 30
abbrev s_law_given : Stmt := topS 31
abbrev s_kept_by : Stmt := topS 16
abbrev s_law_is_none : Stmt := topS 34
abbrev s_law_pick : Stmt := topS 22
abbrev s_law_pool : Stmt := topS 18
abbrev s_law_is_integer : Stmt := topS 20
abbrev s_law_same : Stmt := topS 21
abbrev s_law_shaped : Stmt := topS 23
abbrev s_law_symbol_orbits : Stmt := topS 32
abbrev s_law_ways : Stmt := topS 33
abbrev s_symbol_orbits : Stmt := topS 15
abbrev s_fault_of : Stmt := topS 11
abbrev s_settled_changes : Stmt := topS 12
abbrev s_composed : Stmt := topS 9
abbrev s_unmoved : Stmt := topS 10
abbrev s_ways : Stmt := topS 13
abbrev s_way_to : Stmt := topS 14
abbrev s_law : Stmt := topS 35
def b_law_blocks : Env → SOut :=
  M.seq (M.asg 2 (M.lst (M.nil))) (M.seq (M.forE (M.map rng1 (M.cons (M.var 0) (M.nil))) (M.gn 3) (M.seq (M.asg 4 (M.ite (M.bool (M.op2 eqO (M.oval (M.op2 modO (M.oval (M.callB intO (M.cons (M.oval (M.op2 fdivO (M.ovar 3) (M.ovar 1))) (M.nil)))) (M.oval (M.cst (.int 2))))) (M.oval (M.cst (.int 0))))) (M.op2 addO (M.ovar 3) (M.ovar 1)) (M.op2 subO (M.ovar 3) (M.ovar 1)))) (M.drop (M.met 2 appO (M.cons (M.var 4) (M.nil)))))) (M.ret (M.ite (M.bool (M.op2 eqO (M.oval (M.callB sortO2 (M.cons (M.ovar 2) (M.nil)))) (M.oval (M.rgL (M.var 0))))) (M.callB tupO (M.cons (M.ovar 2) (M.nil))) (M.rgT (M.var 0)))))
def m_law_blocks : List D → Out (D × List D) := M.fn [.fz, .an] .fz 5 b_law_blocks
def b_law_composed : Env → SOut :=
  M.ret (M.callB tupO (M.cons (M.oval (M.lc (M.iv 0) (M.gn 2) (M.yes) (M.op2 ixO2 (M.ovar 1) (M.ovar 2)) [2])) (M.nil)))
def m_law_composed : List D → Out (D × List D) := M.fn [.an, .an] .fz 3 b_law_composed
def b_law_round : Env → SOut :=
  M.seq (M.asg 2 (M.rgL (M.var 0))) (M.seq (M.forE (M.map rng1 (M.cons (M.callB lenO2 (M.cons (M.ovar 1) (M.nil))) (M.nil))) (M.gn 3) (M.store2 2 (M.op2 ixO2 (M.ovar 1) (M.oval (M.op2 modO (M.oval (M.callB intO (M.cons (M.oval (M.op2 addO (M.ovar 3) (M.oval (M.cst (.int 1))))) (M.nil)))) (M.oval (M.callB lenO2 (M.cons (M.ovar 1) (M.nil))))))) (M.op2 ixO2 (M.ovar 1) (M.ovar 3)))) (M.ret (M.callB tupO (M.cons (M.ovar 2) (M.nil)))))
def m_law_round : List D → Out (D × List D) := M.fn [.fz, .an] .fz 4 b_law_round
def b_law_take (self : List D → Out (D × List D)) : Env → SOut :=
  M.seq (M.cond (M.bool (M.op2 gtO (M.oval (M.op2 ixO2 (M.ovar 0) (M.oval (M.cst (.int 2))))) (M.oval (M.cst (.int 0))))) (M.seq (M.asg 2 (M.op2 modO (M.oval (M.callB intO (M.cons (M.oval (M.op2 ixO2 (M.ovar 0) (M.oval (M.cst (.int 2))))) (M.nil)))) (M.ovar 1))) (M.seq (M.store2 0 (M.op2 fdivO (M.oval (M.op2 ixO2 (M.ovar 0) (M.oval (M.cst (.int 2))))) (M.ovar 1)) (M.cst (.int 2))) (M.ret (M.var 2)))) (M.skip)) (M.seq (M.asg 3 (M.cst (.int 0))) (M.seq (M.cond (M.bool (M.op2 ltO (M.oval (M.op2 ixO2 (M.ovar 0) (M.oval (M.cst (.int 1))))) (M.oval (M.callB lenO2 (M.cons (M.oval (M.op2 ixO2 (M.ovar 0) (M.oval (M.cst (.int 0))))) (M.nil)))))) (M.asg 3 (M.op2 ixO2 (M.oval (M.op2 ixO2 (M.ovar 0) (M.oval (M.cst (.int 0))))) (M.oval (M.op2 ixO2 (M.ovar 0) (M.oval (M.cst (.int 1))))))) (M.skip)) (M.seq (M.store2 0 (M.op2 addO (M.oval (M.op2 ixO2 (M.ovar 0) (M.oval (M.cst (.int 1))))) (M.oval (M.cst (.int 1)))) (M.cst (.int 1))) (M.seq (M.cond (M.bool (M.op2 geO (M.ovar 3) (M.oval (M.op2 powO (M.oval (M.cst (.int 10))) (M.oval (M.cst (.int 18))))))) (M.seq (M.store2 0 (M.op2 fdivO (M.ovar 3) (M.oval (M.cst (.int 2)))) (M.cst (.int 2))) (M.ret (M.call [.ow, .an, .fz, .fz, .fz] [.ow, .an] self (M.cons (M.ovar 0) (M.cons (M.ovar 1) (M.nil)))))) (M.skip)) (M.seq (M.store2 0 (M.op2 modO (M.oval (M.callB intO (M.cons (M.oval (M.op2 addO (M.oval (M.op2 addO (M.oval (M.op2 mulO (M.oval (M.op2 ixO2 (M.ovar 0) (M.oval (M.cst (.int 3))))) (M.oval (M.cst (.int 48271))))) (M.oval (M.op2 mulO (M.ovar 3) (M.oval (M.cst (.int 69621))))))) (M.oval (M.op2 mulO (M.oval (M.op2 ixO2 (M.ovar 0) (M.oval (M.cst (.int 1))))) (M.oval (M.cst (.int 613))))))) (M.nil)))) (M.oval (M.cst (.int 2147483647)))) (M.cst (.int 3))) (M.seq (M.asg 4 (M.op2 modO (M.oval (M.callB intO (M.cons (M.oval (M.op2 addO (M.oval (M.op2 addO (M.oval (M.op2 mulO (M.oval (M.op2 ixO2 (M.ovar 0) (M.oval (M.cst (.int 3))))) (M.oval (M.op2 ixO2 (M.ovar 0) (M.oval (M.cst (.int 3))))))) (M.oval (M.op2 mulO (M.oval (M.op2 ixO2 (M.ovar 0) (M.oval (M.cst (.int 3))))) (M.oval (M.cst (.int 7919))))))) (M.oval (M.cst (.int 104729))))) (M.nil)))) (M.oval (M.cst (.int 1000000007))))) (M.ret (M.op2 modO (M.oval (M.callB intO (M.cons (M.oval (M.op2 fdivO (M.ovar 4) (M.oval (M.cst (.int 3))))) (M.nil)))) (M.ovar 1)))))))))
def m_law_take : Nat → List D → Out (D × List D)
  | 0 => M.fn [.ow, .an] .fz 5 M.never
  | k + 1 => M.fn [.ow, .an] .fz 5 (b_law_take (m_law_take k))
def b_law_some : Env → SOut :=
  M.seq (M.asg 3 (M.callB lstO (M.cons (M.ovar 1) (M.nil)))) (M.seq (M.asg 4 (M.lst (M.nil))) (M.seq (M.forE (M.map rng1 (M.cons (M.callB min2O (M.cons (M.ovar 2) (M.cons (M.oval (M.callB lenO2 (M.cons (M.ovar 1) (M.nil)))) (M.nil)))) (M.nil))) (M.gn 5) (M.drop (M.met 4 appO (M.cons (M.met 3 popO (M.cons (M.call [.ow, .an, .an, .ow, .ow, .fz] [.ow, .an] (m_law_take 3) (M.cons (M.ovar 0) (M.cons (M.oval (M.callB lenO2 (M.cons (M.ovar 3) (M.nil)))) (M.nil)))) (M.nil))) (M.nil))))) (M.ret (M.var 4))))
def m_law_some : List D → Out (D × List D) := M.fn [.ow, .an, .an] .fz 6 b_law_some
def b_law_candidate : Env → SOut :=
  M.seq (M.asg 2 (M.call [.ow, .fz, .fz, .fz, .fz, .fz] [.ow, .an] (m_law_take 3) (M.cons (M.ovar 0) (M.cons (M.oval (M.cst (.int 8))) (M.nil))))) (M.seq (M.asg 3 (M.call [.ow, .fz, .fz, .fz, .fz, .fz] [.ow, .an, .an] m_law_some (M.cons (M.ovar 0) (M.cons (M.oval (M.rgL (M.var 1))) (M.cons (M.ovar 1) (M.nil)))))) (M.seq (M.cond (M.bool (M.op2 eqO (M.ovar 2) (M.oval (M.cst (.int 0))))) (M.ret (M.call [.ow, .fz, .fz, .fz, .fz, .fz] [.fz, .an] m_law_round (M.cons (M.ovar 1) (M.cons (M.oval (M.slice (M.ovar 3) (M.pnone) (M.psome (M.cst (.int 2))))) (M.nil))))) (M.skip)) (M.seq (M.cond (M.bool (M.op2 eqO (M.ovar 2) (M.oval (M.cst (.int 1))))) (M.ret (M.call [.ow, .fz, .fz, .fz, .fz, .fz] [.fz, .an] m_law_round (M.cons (M.ovar 1) (M.cons (M.oval (M.slice (M.ovar 3) (M.pnone) (M.psome (M.op2 addO (M.oval (M.cst (.int 2))) (M.oval (M.call [.ow, .fz, .fz, .fz, .fz, .fz] [.ow, .an] (m_law_take 3) (M.cons (M.ovar 0) (M.cons (M.oval (M.op2 subO (M.ovar 1) (M.oval (M.cst (.int 1))))) (M.nil))))))))) (M.nil))))) (M.skip)) (M.seq (M.cond (M.bool (M.op2 eqO (M.ovar 2) (M.oval (M.cst (.int 2))))) (M.ret (M.call [.ow, .fz, .fz, .fz, .fz, .fz] [.an, .an] m_law_composed (M.cons (M.oval (M.call [.ow, .fz, .fz, .fz, .fz, .fz] [.fz, .an] m_law_round (M.cons (M.ovar 1) (M.cons (M.oval (M.slice (M.ovar 3) (M.pnone) (M.psome (M.cst (.int 2))))) (M.nil))))) (M.cons (M.oval (M.call [.ow, .fz, .fz, .fz, .fz, .fz] [.fz, .an] m_law_round (M.cons (M.ovar 1) (M.cons (M.oval (M.slice (M.ovar 3) (M.psome (M.cst (.int 2))) (M.psome (M.cst (.int 4))))) (M.nil))))) (M.nil))))) (M.skip)) (M.seq (M.cond (M.bool (M.op2 eqO (M.ovar 2) (M.oval (M.cst (.int 3))))) (M.seq (M.asg 4 (M.call [.ow, .fz, .fz, .fz, .fz, .fz] [.ow, .an] (m_law_take 3) (M.cons (M.ovar 0) (M.cons (M.ovar 1) (M.nil))))) (M.ret (M.callB tupO (M.cons (M.oval (M.lc (M.map rng1 (M.cons (M.var 1) (M.nil))) (M.gn 5) (M.yes) (M.op2 modO (M.oval (M.callB intO (M.cons (M.oval (M.op2 addO (M.ovar 5) (M.ovar 4))) (M.nil)))) (M.ovar 1)) [5])) (M.nil))))) (M.skip)) (M.seq (M.cond (M.bool (M.op2 eqO (M.ovar 2) (M.oval (M.cst (.int 4))))) (M.ret (M.callB tupO (M.cons (M.oval (M.lc (M.map rng1 (M.cons (M.var 1) (M.nil))) (M.gn 5) (M.yes) (M.op2 subO (M.oval (M.op2 subO (M.ovar 1) (M.oval (M.cst (.int 1))))) (M.ovar 5)) [5])) (M.nil)))) (M.skip)) (M.seq (M.cond (M.bool (M.op2 eqO (M.ovar 2) (M.oval (M.cst (.int 5))))) (M.ret (M.call [.ow, .fz, .fz, .fz, .fz, .fz] [.fz, .an] m_law_blocks (M.cons (M.ovar 1) (M.cons (M.oval (M.op2 ixO2 (M.oval (M.tup (M.cons (M.cst (.int 1)) (M.cons (M.cst (.int 2)) (M.cons (M.cst (.int 4)) (M.nil)))))) (M.oval (M.call [.ow, .fz, .fz, .fz, .fz, .fz] [.ow, .an] (m_law_take 3) (M.cons (M.ovar 0) (M.cons (M.oval (M.cst (.int 3))) (M.nil))))))) (M.nil))))) (M.skip)) (M.seq (M.cond (M.bool (M.op2 eqO (M.ovar 2) (M.oval (M.cst (.int 6))))) (M.ret (M.call [.ow, .fz, .fz, .fz, .fz, .fz] [.an, .an] m_law_composed (M.cons (M.oval (M.call [.ow, .fz, .fz, .fz, .fz, .fz] [.fz, .an] m_law_round (M.cons (M.ovar 1) (M.cons (M.oval (M.slice (M.ovar 3) (M.pnone) (M.psome (M.cst (.int 3))))) (M.nil))))) (M.cons (M.oval (M.call [.ow, .fz, .fz, .fz, .fz, .fz] [.fz, .an] m_law_round (M.cons (M.ovar 1) (M.cons (M.oval (M.slice (M.ovar 3) (M.psome (M.cst (.int 3))) (M.psome (M.cst (.int 6))))) (M.nil))))) (M.nil))))) (M.skip)) (M.ret (M.callB tupO (M.cons (M.ovar 3) (M.nil))))))))))))
def m_law_candidate : List D → Out (D × List D) := M.fn [.ow, .fz] .fz 6 b_law_candidate
def b_law_closed : Env → SOut :=
  M.seq (M.asg 2 (M.lst (M.cons (M.rgT (M.var 0)) (M.nil)))) (M.seq (M.forE (M.map rng1 (M.cons (M.cst (.int 25)) (M.nil))) (M.gn 3) (M.cond (M.bool (M.op2 ltO (M.ovar 3) (M.oval (M.callB lenO2 (M.cons (M.ovar 2) (M.nil)))))) (M.forE (M.iv 1) (M.gn 4) (M.seq (M.asg 5 (M.call [.fz, .an, .ow, .fz, .fz, .fz] [.an, .an] m_law_composed (M.cons (M.oval (M.op2 ixO2 (M.ovar 2) (M.ovar 3))) (M.cons (M.ovar 4) (M.nil))))) (M.cond (M.bool (M.op2 notInO2 (M.ovar 5) (M.ovar 2))) (M.drop (M.met 2 appO (M.cons (M.var 5) (M.nil)))) (M.skip)))) (M.skip))) (M.ret (M.ite (M.bool (M.op2 ltO (M.oval (M.callB lenO2 (M.cons (M.ovar 2) (M.nil)))) (M.oval (M.cst (.int 25))))) (M.callB tupO (M.cons (M.oval (M.callB sortO2 (M.cons (M.ovar 2) (M.nil)))) (M.nil))) (M.cst .non))))
def m_law_closed : List D → Out (D × List D) := M.fn [.fz, .an] .fz 6 b_law_closed
def b_law_many_given : Env → SOut :=
  M.seq (M.asg 2 (M.call [.ow, .fz, .fz, .fz, .fz, .fz] [.ow, .an, .an] m_law_some (M.cons (M.ovar 0) (M.cons (M.oval (M.rgL (M.var 1))) (M.cons (M.oval (M.cst (.int 4))) (M.nil)))))) (M.seq (M.cond (M.bool (M.op2 eqO (M.oval (M.call [.ow, .fz, .fz, .fz, .fz, .fz] [.ow, .an] (m_law_take 3) (M.cons (M.ovar 0) (M.cons (M.oval (M.cst (.int 2))) (M.nil))))) (M.oval (M.cst (.int 0))))) (M.ret (M.lst (M.cons (M.call [.ow, .fz, .fz, .fz, .fz, .fz] [.fz, .an] m_law_round (M.cons (M.ovar 1) (M.cons (M.oval (M.slice (M.ovar 2) (M.pnone) (M.psome (M.cst (.int 2))))) (M.nil)))) (M.cons (M.call [.ow, .fz, .fz, .fz, .fz, .fz] [.fz, .an] m_law_round (M.cons (M.ovar 1) (M.cons (M.ovar 2) (M.nil)))) (M.nil))))) (M.skip)) (M.seq (M.asg 3 (M.call [.ow, .fz, .fz, .fz, .fz, .fz] [.ow, .an, .an] m_law_some (M.cons (M.ovar 0) (M.cons (M.oval (M.rgL (M.var 1))) (M.cons (M.ovar 1) (M.nil)))))) (M.seq (M.asg 4 (M.rgL (M.var 1))) (M.seq (M.forE (M.map rng1 (M.cons (M.var 1) (M.nil))) (M.gn 5) (M.store2 4 (M.op2 ixO2 (M.ovar 3) (M.oval (M.op2 subO (M.oval (M.op2 subO (M.ovar 1) (M.oval (M.cst (.int 1))))) (M.ovar 5)))) (M.op2 ixO2 (M.ovar 3) (M.ovar 5)))) (M.ret (M.lst (M.cons (M.call [.ow, .fz, .fz, .fz, .ow, .fz] [.fz, .an] m_law_round (M.cons (M.ovar 1) (M.cons (M.ovar 3) (M.nil)))) (M.cons (M.callB tupO (M.cons (M.ovar 4) (M.nil))) (M.nil)))))))))
def m_law_many_given : List D → Out (D × List D) := M.fn [.ow, .fz] .fz 6 b_law_many_given
def b_law_given : Env → SOut :=
  M.seq (M.asg 2 (M.lst (M.nil))) (M.seq (M.cond (M.bool (M.op2 eqO (M.oval (M.call [.ow, .fz, .fz, .fz, .fz] [.ow, .an] (m_law_take 3) (M.cons (M.ovar 0) (M.cons (M.oval (M.cst (.int 5))) (M.nil))))) (M.oval (M.cst (.int 0))))) (M.asg 2 (M.call [.ow, .fz, .fz, .fz, .fz] [.ow, .fz] m_law_many_given (M.cons (M.ovar 0) (M.cons (M.ovar 1) (M.nil))))) (M.skip)) (M.seq (M.forE (M.map rng1 (M.cons (M.call [.ow, .fz, .fz, .fz, .fz] [.ow, .an] (m_law_take 3) (M.cons (M.ovar 0) (M.cons (M.oval (M.cst (.int 4))) (M.nil)))) (M.nil))) (M.gn 3) (M.seq (M.asg 4 (M.call [.ow, .fz, .fz, .fz, .fz] [.ow, .fz] m_law_candidate (M.cons (M.ovar 0) (M.cons (M.ovar 1) (M.nil))))) (M.cond (M.and (M.bool (M.op2 ltO (M.oval (M.callB lenO2 (M.cons (M.ovar 2) (M.nil)))) (M.oval (M.cst (.int 3))))) (M.bool (M.op2 notNO (M.oval (M.call [.ow, .fz, .fz, .fz, .fz] [.fz, .an] m_law_closed (M.cons (M.ovar 1) (M.cons (M.oval (M.op2 addO (M.ovar 2) (M.oval (M.lst (M.cons (M.var 4) (M.nil)))))) (M.nil))))) (M.oval (M.cst .non))))) (M.asg 2 (M.op2 addO (M.ovar 2) (M.oval (M.lst (M.cons (M.var 4) (M.nil)))))) (M.skip)))) (M.ret (M.call [.ow, .fz, .fz, .fz, .fz] [.ow, .an, .an] m_law_some (M.cons (M.ovar 0) (M.cons (M.ovar 2) (M.cons (M.oval (M.cst (.int 3))) (M.nil))))))))
def m_law_given : List D → Out (D × List D) := M.fn [.ow, .fz] .fz 5 b_law_given
def b_kept_by : Env → SOut :=
  M.seq (M.cond (M.not (M.bool (M.chain leO ltO (M.oval (M.cst (.int 0))) (M.ovar 1) (M.oval (M.callB lenO2 (M.cons (M.oval (M.op2 ixO2 (M.ovar 0) (M.oval (M.cst (.int 0))))) (M.nil))))))) (M.raise (M.mk0 "NoSymbol")) (M.skip)) (M.ret (M.callB tupO (M.cons (M.oval (M.lc (M.iv 0) (M.gn 2) (M.bool (M.op2 eqO (M.oval (M.op2 ixO2 (M.ovar 2) (M.ovar 1))) (M.ovar 1))) (M.callB tupO (M.cons (M.ovar 2) (M.nil))) [2])) (M.nil))))
def m_kept_by : List D → Out (D × List D) := M.fn [.an, .an] .fz 3 b_kept_by
def b_law_is_none : Env → SOut :=
  M.seq (M.tryR (M.drop (M.call [.an, .an, .fz] [.an, .an] m_kept_by (M.cons (M.ovar 0) (M.cons (M.ovar 1) (M.nil))))) [⟨tells ["NoSymbol"] ["BadChanges"], HM.is "NoSymbol" true⟩]) (M.ret (M.cst (.bl false)))
def m_law_is_none : List D → Out (D × List D) := M.fn [.an, .an] .fz 3 b_law_is_none
def b_law_pick : Env → SOut :=
  M.ret (M.op2 ixO2 (M.ovar 1) (M.oval (M.call [.ow, .an] [.ow, .an] (m_law_take 3) (M.cons (M.ovar 0) (M.cons (M.oval (M.callB lenO2 (M.cons (M.ovar 1) (M.nil)))) (M.nil))))))
def m_law_pick : List D → Out (D × List D) := M.fn [.ow, .an] .fz 2 b_law_pick
def b_law_pool : Env → SOut :=
  M.ret (M.lst (M.cons (M.lc (M.iv 0) (M.gn 1) (M.yes) (M.ite (M.bool (M.op2 geO (M.ovar 1) (M.oval (M.cst (.int 0))))) (M.op2 mulO (M.oval (M.cst (.int 2))) (M.ovar 1)) (M.op2 subO (M.oval (M.op2 mulO (M.oval (M.map negO (M.cst (.int 2)))) (M.ovar 1))) (M.oval (M.cst (.int 1))))) [1]) (M.cons (M.cst (.int 0)) (M.cons (M.cst (.int 0)) (M.cons (M.cst (.int 17)) (M.nil))))))
def m_law_pool : List D → Out (D × List D) := M.fn [.an] .ow 2 b_law_pool
def b_law_is_integer : Env → SOut :=
  M.ret (M.andV (M.is .int (M.ovar 0)) (M.notV (M.is .bool (M.ovar 0))))
def m_law_is_integer : List D → Out (D × List D) := M.fn [.an] .fz 1 b_law_is_integer
def b_law_same (self : List D → Out (D × List D)) : Env → SOut :=
  M.seq (M.cond (M.bool (M.is .tuple (M.ovar 1))) (M.seq (M.cond (M.or (M.not (M.bool (M.is .tuple (M.ovar 0)))) (M.bool (M.op2 neO (M.oval (M.callB lenO2 (M.cons (M.ovar 0) (M.nil)))) (M.oval (M.callB lenO2 (M.cons (M.ovar 1) (M.nil))))))) (M.ret (M.cst (.bl false))) (M.skip)) (M.ret (M.callB allO (M.cons (M.oval (M.lc (M.map rng1 (M.cons (M.callB lenO2 (M.cons (M.ovar 1) (M.nil))) (M.nil))) (M.gn 2) (M.yes) (M.call [.an, .an, .fz] [.an, .an] self (M.cons (M.oval (M.op2 ixO2 (M.ovar 0) (M.ovar 2))) (M.cons (M.oval (M.op2 ixO2 (M.ovar 1) (M.ovar 2))) (M.nil)))) [2])) (M.nil))))) (M.skip)) (M.seq (M.cond (M.bool (M.is .list (M.ovar 1))) (M.seq (M.cond (M.or (M.not (M.bool (M.is .list (M.ovar 0)))) (M.bool (M.op2 neO (M.oval (M.callB lenO2 (M.cons (M.ovar 0) (M.nil)))) (M.oval (M.callB lenO2 (M.cons (M.ovar 1) (M.nil))))))) (M.ret (M.cst (.bl false))) (M.skip)) (M.ret (M.callB allO (M.cons (M.oval (M.lc (M.map rng1 (M.cons (M.callB lenO2 (M.cons (M.ovar 1) (M.nil))) (M.nil))) (M.gn 2) (M.yes) (M.call [.an, .an, .fz] [.an, .an] self (M.cons (M.oval (M.op2 ixO2 (M.ovar 0) (M.ovar 2))) (M.cons (M.oval (M.op2 ixO2 (M.ovar 1) (M.ovar 2))) (M.nil)))) [2])) (M.nil))))) (M.skip)) (M.seq (M.cond (M.bool (M.op2 isNO (M.ovar 1) (M.oval (M.cst .non)))) (M.ret (M.op2 isNO (M.ovar 0) (M.oval (M.cst .non)))) (M.skip)) (M.seq (M.cond (M.bool (M.is .bool (M.ovar 1))) (M.ret (M.andV (M.is .bool (M.ovar 0)) (M.op2 eqO (M.ovar 0) (M.ovar 1)))) (M.skip)) (M.seq (M.cond (M.bool (M.is .str (M.ovar 1))) (M.ret (M.andV (M.is .str (M.ovar 0)) (M.op2 eqO (M.ovar 0) (M.ovar 1)))) (M.skip)) (M.ret (M.andV (M.call [.an, .an, .fz] [.an] m_law_is_integer (M.cons (M.ovar 0) (M.nil))) (M.op2 eqO (M.ovar 0) (M.ovar 1))))))))
def m_law_same : Nat → List D → Out (D × List D)
  | 0 => M.fn [.an, .an] .fz 3 M.never
  | k + 1 => M.fn [.an, .an] .fz 3 (b_law_same (m_law_same k))
def b_law_shaped (self : List D → Out (D × List D)) : Env → SOut :=
  M.seq (M.cond (M.not (M.bool (M.is2 .tuple .list (M.ovar 1)))) (M.ret (M.var 1)) (M.skip)) (M.seq (M.asg 2 (M.lc (M.iv 1) (M.gn 3) (M.yes) (M.call [.ow, .fz, .fz, .fz] [.ow, .fz] self (M.cons (M.ovar 0) (M.cons (M.ovar 3) (M.nil)))) [3])) (M.ret (M.ite (M.bool (M.op2 eqO (M.oval (M.call [.ow, .fz, .fz, .fz] [.ow, .an] (m_law_take 3) (M.cons (M.ovar 0) (M.cons (M.oval (M.cst (.int 2))) (M.nil))))) (M.oval (M.cst (.int 0))))) (M.var 2) (M.callB tupO (M.cons (M.ovar 2) (M.nil))))))
def m_law_shaped : Nat → List D → Out (D × List D)
  | 0 => M.fn [.ow, .fz] .fz 4 M.never
  | k + 1 => M.fn [.ow, .fz] .fz 4 (b_law_shaped (m_law_shaped k))
def b_law_symbol_orbits : Env → SOut :=
  M.seq (M.asg 2 (M.lst (M.nil))) (M.seq (M.forE (M.map rng1 (M.cons (M.var 0) (M.nil))) (M.gn 3) (M.seq (M.asg 4 (M.callB sortO3 (M.cons (M.oval (M.callB setO (M.cons (M.oval (M.lc (M.iv 1) (M.gn 5) (M.yes) (M.op2 ixO2 (M.ovar 5) (M.ovar 3)) [5])) (M.nil)))) (M.nil)))) (M.cond (M.bool (M.op2 eqO (M.oval (M.op2 ixO2 (M.ovar 4) (M.oval (M.cst (.int 0))))) (M.ovar 3))) (M.drop (M.met 2 appO (M.cons (M.var 4) (M.nil)))) (M.skip)))) (M.ret (M.var 2)))
def m_law_symbol_orbits : List D → Out (D × List D) := M.fn [.fz, .an] .fz 6 b_law_symbol_orbits
def b_law_ways : Env → SOut :=
  M.seq (M.asg 2 (M.disp (M.pcons (M.rgT (M.var 0)) (M.tup (M.nil)) (M.nil)))) (M.seq (M.asg 3 (M.lst (M.cons (M.tup (M.cons (M.tup (M.nil)) (M.cons (M.rgT (M.var 0)) (M.nil)))) (M.nil)))) (M.seq (M.forE (M.map rng1 (M.cons (M.cst (.int 25)) (M.nil))) (M.gn 4) (M.seq (M.asg 5 (M.lst (M.nil))) (M.seq (M.forE (M.iv 3) (M.gt 2 (M.gcons (M.gn 6) (M.gcons (M.gn 7) (M.gnil)))) (M.forE (M.map rng1 (M.cons (M.callB lenO2 (M.cons (M.ovar 1) (M.nil))) (M.nil))) (M.gn 8) (M.seq (M.asg 9 (M.call [.fz, .an, .ow, .fz, .fz, .ow, .fz, .fz, .fz, .fz] [.an, .an] m_law_composed (M.cons (M.ovar 7) (M.cons (M.oval (M.op2 ixO2 (M.ovar 1) (M.ovar 8))) (M.nil))))) (M.cond (M.bool (M.op2 notInO2 (M.ovar 9) (M.ovar 2))) (M.seq (M.store2 2 (M.op2 addO (M.ovar 6) (M.oval (M.tup (M.cons (M.var 8) (M.nil))))) (M.var 9)) (M.drop (M.met 5 appO (M.cons (M.tup (M.cons (M.op2 addO (M.ovar 6) (M.oval (M.tup (M.cons (M.var 8) (M.nil))))) (M.cons (M.var 9) (M.nil)))) (M.nil))))) (M.skip))))) (M.asg 3 (M.var 5))))) (M.ret (M.var 2))))
def m_law_ways : List D → Out (D × List D) := M.fn [.fz, .an] .fz 10 b_law_ways
def b_symbol_orbits : Env → SOut :=
  M.seq (M.asg 1 (M.lst (M.nil))) (M.seq (M.forE (M.map rng1 (M.cons (M.callB lenO2 (M.cons (M.oval (M.op2 ixO2 (M.ovar 0) (M.oval (M.cst (.int 0))))) (M.nil))) (M.nil))) (M.gn 2) (M.seq (M.asg 3 (M.callB sortO3 (M.cons (M.oval (M.sc (M.iv 0) (M.gn 4) (M.yes) (M.op2 ixO2 (M.ovar 4) (M.ovar 2)) [4])) (M.nil)))) (M.cond (M.bool (M.op2 eqO (M.oval (M.op2 ixO2 (M.ovar 3) (M.oval (M.cst (.int 0))))) (M.ovar 2))) (M.drop (M.met 1 appO (M.cons (M.callB tupO (M.cons (M.ovar 3) (M.nil))) (M.nil)))) (M.skip)))) (M.ret (M.callB tupO (M.cons (M.ovar 1) (M.nil)))))
def m_symbol_orbits : List D → Out (D × List D) := M.fn [.an] .fz 5 b_symbol_orbits
def b_fault_of : Env → SOut :=
  M.seq (M.cond (M.bool (M.op2 neO (M.oval (M.callB lenO2 (M.cons (M.ovar 1) (M.nil)))) (M.ovar 0))) (M.ret (M.cst (.str "length"))) (M.skip)) (M.seq (M.cond (M.not (M.bool (M.callB allO (M.cons (M.oval (M.lc (M.iv 1) (M.gn 2) (M.yes) (M.chain leO ltO (M.oval (M.cst (.int 0))) (M.ovar 2) (M.ovar 0)) [2])) (M.nil))))) (M.ret (M.cst (.str "symbol"))) (M.skip)) (M.ret (M.ite (M.bool (M.op2 eqO (M.oval (M.op1 lenSetO (M.ovar 1))) (M.ovar 0))) (M.cst .non) (M.cst (.str "twice")))))
def m_fault_of : List D → Out (D × List D) := M.fn [.an, .an] .fz 3 b_fault_of
def b_settled_changes : Env → SOut :=
  M.seq (M.cond (M.not (M.bool (M.chain leO leO (M.oval (M.cst (.int 2))) (M.ovar 0) (M.oval (M.cst (.int 8)))))) (M.raise (M.mkI "BadChanges" ["number", "reason"] (M.cons (M.cst .non) (M.cons (M.cst (.str "symbols")) (M.nil))))) (M.skip)) (M.seq (M.cond (M.bool (M.op2 gtO (M.oval (M.callB lenO2 (M.cons (M.ovar 1) (M.nil)))) (M.oval (M.cst (.int 3))))) (M.raise (M.mkI "BadChanges" ["number", "reason"] (M.cons (M.cst .non) (M.cons (M.cst (.str "given")) (M.nil))))) (M.skip)) (M.seq (M.forE (M.ien 1) (M.gt 2 (M.gcons (M.gn 2) (M.gcons (M.gn 3) (M.gnil)))) (M.seq (M.asg 4 (M.call [.an, .an, .fz, .fz, .fz] [.an, .an] m_fault_of (M.cons (M.ovar 0) (M.cons (M.ovar 3) (M.nil))))) (M.cond (M.bool (M.op2 notNO (M.ovar 4) (M.oval (M.cst .non)))) (M.raise (M.mkI "BadChanges" ["number", "reason"] (M.cons (M.var 2) (M.cons (M.var 4) (M.nil))))) (M.skip)))) (M.ret (M.callB tupO (M.cons (M.oval (M.lc (M.iv 1) (M.gn 3) (M.yes) (M.callB tupO (M.cons (M.ovar 3) (M.nil))) [3])) (M.nil))))))
def m_settled_changes : List D → Out (D × List D) := M.fn [.an, .an] .fz 5 b_settled_changes
def b_composed : Env → SOut :=
  M.ret (M.callB tupO (M.cons (M.oval (M.lc (M.iv 0) (M.gn 2) (M.yes) (M.op2 ixO2 (M.ovar 1) (M.ovar 2)) [2])) (M.nil)))
def m_composed : List D → Out (D × List D) := M.fn [.an, .an] .fz 3 b_composed
def b_unmoved : Env → SOut :=
  M.ret (M.rgT (M.var 0))
def m_unmoved : List D → Out (D × List D) := M.fn [.fz] .fz 1 b_unmoved
def b_ways : Env → SOut :=
  M.seq (M.asg 2 (M.disp (M.pcons (M.call [.fz, .an, .fz, .fz, .fz, .fz, .fz, .fz] [.fz] m_unmoved (M.cons (M.ovar 0) (M.nil))) (M.tup (M.nil)) (M.nil)))) (M.seq (M.asg 3 (M.lst (M.cons (M.call [.fz, .an, .ow, .fz, .fz, .fz, .fz, .fz] [.fz] m_unmoved (M.cons (M.ovar 0) (M.nil))) (M.nil)))) (M.seq (M.loop (M.op1 truO (M.ovar 3)) (M.seq (M.asg 4 (M.met 3 popO (M.cons (M.cst (.int 0)) (M.nil)))) (M.forE (M.ien 1) (M.gt 2 (M.gcons (M.gn 5) (M.gcons (M.gn 6) (M.gnil)))) (M.seq (M.asg 7 (M.call [.fz, .an, .ow, .ow, .fz, .fz, .fz, .fz] [.an, .an] m_composed (M.cons (M.ovar 4) (M.cons (M.ovar 6) (M.nil))))) (M.cond (M.bool (M.op2 notInO2 (M.ovar 7) (M.ovar 2))) (M.seq (M.cond (M.bool (M.op2 eqO (M.oval (M.callB lenO2 (M.cons (M.ovar 2) (M.nil)))) (M.oval (M.cst (.int 24))))) (M.raise (M.mkI "BadChanges" ["number", "reason"] (M.cons (M.cst .non) (M.cons (M.cst (.str "many")) (M.nil))))) (M.skip)) (M.seq (M.store2 2 (M.op2 addO (M.oval (M.op2 ixO2 (M.ovar 2) (M.ovar 4))) (M.oval (M.tup (M.cons (M.var 5) (M.nil))))) (M.var 7)) (M.drop (M.met 3 appO (M.cons (M.var 7) (M.nil)))))) (M.skip))))) 30) (M.ret (M.var 2))))
def m_ways : List D → Out (D × List D) := M.fn [.fz, .an] .fz 8 b_ways
def b_way_to : Env → SOut :=
  M.ret (M.methA [2] getO (M.oval (M.call [.fz, .an, .an] [.fz, .an] m_ways (M.cons (M.ovar 0) (M.cons (M.oval (M.call [.fz, .an, .an] [.an, .an] m_settled_changes (M.cons (M.ovar 0) (M.cons (M.ovar 1) (M.nil))))) (M.nil))))) (M.cons (M.callB tupO (M.cons (M.ovar 2) (M.nil))) (M.nil)))
def m_way_to : List D → Out (D × List D) := M.fn [.fz, .an, .an] .fz 3 b_way_to
def b_law_s0 : Env → SOut :=
  M.asg 1 (M.call [.an, .fz, .fz, .fz, .fz, .fz, .fz, .fz, .fz, .fz, .fz, .fz, .fz, .fz] [.an] m_law_pool (M.cons (M.ovar 0) (M.nil)))
def b_law_s1 : Env → SOut :=
  M.asg 2 (M.op2 addO (M.oval (M.cst (.int 2))) (M.oval (M.call [.an, .ow, .fz, .fz, .fz, .fz, .fz, .fz, .fz, .fz, .fz, .fz, .fz, .fz] [.ow, .an] (m_law_take 3) (M.cons (M.ovar 1) (M.cons (M.oval (M.cst (.int 7))) (M.nil))))))
def b_law_s2 : Env → SOut :=
  M.asg 3 (M.call [.an, .ow, .fz, .fz, .fz, .fz, .fz, .fz, .fz, .fz, .fz, .fz, .fz, .fz] [.ow, .fz] m_law_given (M.cons (M.ovar 1) (M.cons (M.ovar 2) (M.nil))))
def b_law_s3 : Env → SOut :=
  M.cond (M.and (M.op1 truO (M.ovar 3)) (M.and (M.bool (M.op2 ltO (M.oval (M.callB lenO2 (M.cons (M.ovar 3) (M.nil)))) (M.oval (M.cst (.int 3))))) (M.bool (M.op2 eqO (M.oval (M.call [.an, .ow, .fz, .fz, .fz, .fz, .fz, .fz, .fz, .fz, .fz, .fz, .fz, .fz] [.ow, .an] (m_law_take 3) (M.cons (M.ovar 1) (M.cons (M.oval (M.cst (.int 3))) (M.nil))))) (M.oval (M.cst (.int 0))))))) (M.asg 3 (M.op2 addO (M.oval (M.lst (M.cons (M.call [.an, .ow, .fz, .fz, .fz, .fz, .fz, .fz, .fz, .fz, .fz, .fz, .fz, .fz] [.ow, .an] m_law_pick (M.cons (M.ovar 1) (M.cons (M.ovar 3) (M.nil)))) (M.nil)))) (M.ovar 3))) (M.skip)
def b_law_s4 : Env → SOut :=
  M.asg 4 (M.call [.an, .ow, .fz, .fz, .fz, .fz, .fz, .fz, .fz, .fz, .fz, .fz, .fz, .fz] [.fz, .an] m_law_ways (M.cons (M.ovar 2) (M.cons (M.ovar 3) (M.nil))))
def b_law_s5 : Env → SOut :=
  M.forE (M.map walked (M.callB sortO2 (M.cons (M.ovar 4) (M.nil)))) (M.gn 5) (M.seq (M.asg 6 (M.call [.an, .ow, .fz, .fz, .fz, .fz, .fz, .fz, .fz, .fz, .fz, .fz, .fz, .fz] [.fz, .an, .an] m_way_to (M.cons (M.ovar 2) (M.cons (M.oval (M.call [.an, .ow, .fz, .fz, .fz, .fz, .fz, .fz, .fz, .fz, .fz, .fz, .fz, .fz] [.ow, .fz] (m_law_shaped 4) (M.cons (M.ovar 1) (M.cons (M.ovar 3) (M.nil))))) (M.cons (M.oval (M.call [.an, .ow, .fz, .fz, .fz, .fz, .fz, .fz, .fz, .fz, .fz, .fz, .fz, .fz] [.ow, .fz] (m_law_shaped 4) (M.cons (M.ovar 1) (M.cons (M.ovar 5) (M.nil))))) (M.nil)))))) (M.cond (M.not (M.op1 truO (M.oval (M.call [.an, .ow, .fz, .fz, .fz, .fz, .fz, .fz, .fz, .fz, .fz, .fz, .fz, .fz] [.an, .an] (m_law_same 6) (M.cons (M.ovar 6) (M.cons (M.oval (M.op2 ixO2 (M.ovar 4) (M.ovar 5))) (M.nil))))))) (M.ret (M.cst (.bl false))) (M.skip)))
def b_law_s6 : Env → SOut :=
  M.asg 7 (M.callB tupO (M.cons (M.oval (M.call [.an, .ow, .fz, .fz, .fz, .fz, .fz, .fz, .fz, .fz, .fz, .fz, .fz, .fz] [.ow, .an, .an] m_law_some (M.cons (M.ovar 1) (M.cons (M.oval (M.rgL (M.var 2))) (M.cons (M.ovar 2) (M.nil)))))) (M.nil)))
def b_law_s7 : Env → SOut :=
  M.cond (M.not (M.op1 truO (M.oval (M.call [.an, .ow, .fz, .fz, .fz, .fz, .fz, .fz, .fz, .fz, .fz, .fz, .fz, .fz] [.an, .an] (m_law_same 6) (M.cons (M.oval (M.call [.an, .ow, .fz, .fz, .fz, .fz, .fz, .fz, .fz, .fz, .fz, .fz, .fz, .fz] [.fz, .an, .an] m_way_to (M.cons (M.ovar 2) (M.cons (M.ovar 3) (M.cons (M.ovar 7) (M.nil)))))) (M.cons (M.oval (M.methA [2] getO (M.ovar 4) (M.cons (M.var 7) (M.cons (M.cst .non) (M.nil))))) (M.nil))))))) (M.ret (M.cst (.bl false))) (M.skip)
def b_law_s8 : Env → SOut :=
  M.forE (M.map walked (M.tup (M.cons (M.tup (M.nil)) (M.cons (M.tup (M.cons (M.cst (.int 0)) (M.nil))) (M.cons (M.op2 mulO2 (M.oval (M.tup (M.cons (M.cst (.int 0)) (M.nil)))) (M.ovar 2)) (M.cons (M.rg2 .tup (M.cst (.int 1)) (M.op2 addO (M.ovar 2) (M.oval (M.cst (.int 1))))) (M.cons (M.op2 addO (M.oval (M.rgT (M.var 2))) (M.oval (M.tup (M.cons (M.cst (.int 0)) (M.nil))))) (M.cons (M.op2 addO (M.oval (M.tup (M.cons (M.map negO (M.cst (.int 1))) (M.nil)))) (M.oval (M.slice (M.ovar 7) (M.psome (M.cst (.int 1))) (M.pnone)))) (M.nil))))))))) (M.gn 8) (M.cond (M.bool (M.op2 notNO (M.oval (M.call [.an, .ow, .fz, .fz, .fz, .fz, .fz, .fz, .fz, .fz, .fz, .fz, .fz, .fz] [.fz, .an, .an] m_way_to (M.cons (M.ovar 2) (M.cons (M.ovar 3) (M.cons (M.oval (M.call [.an, .ow, .fz, .fz, .fz, .fz, .fz, .fz, .fz, .fz, .fz, .fz, .fz, .fz] [.ow, .fz] (m_law_shaped 4) (M.cons (M.ovar 1) (M.cons (M.ovar 8) (M.nil))))) (M.nil)))))) (M.oval (M.cst .non)))) (M.ret (M.cst (.bl false))) (M.skip))
def b_law_s9 : Env → SOut :=
  M.asg 9 (M.callB tupO (M.cons (M.oval (M.callB sortO2 (M.cons (M.ovar 4) (M.nil)))) (M.nil)))
def b_law_s10 : Env → SOut :=
  M.asg 10 (M.callB tupO (M.cons (M.oval (M.lc (M.map walked (M.call [.an, .ow, .fz, .fz, .fz, .fz, .fz, .fz, .fz, .fz, .fz, .fz, .fz, .fz] [.fz, .an] m_law_symbol_orbits (M.cons (M.ovar 2) (M.cons (M.ovar 9) (M.nil))))) (M.gn 13) (M.yes) (M.callB tupO (M.cons (M.ovar 13) (M.nil))) [13])) (M.nil)))
def b_law_s11 : Env → SOut :=
  M.cond (M.not (M.op1 truO (M.oval (M.call [.an, .ow, .fz, .fz, .fz, .fz, .fz, .fz, .fz, .fz, .fz, .fz, .fz, .fz] [.an, .an] (m_law_same 6) (M.cons (M.oval (M.call [.an, .ow, .fz, .fz, .fz, .fz, .fz, .fz, .fz, .fz, .fz, .fz, .fz, .fz] [.an] m_symbol_orbits (M.cons (M.oval (M.call [.an, .ow, .fz, .fz, .fz, .fz, .fz, .fz, .fz, .fz, .fz, .fz, .fz, .fz] [.ow, .fz] (m_law_shaped 4) (M.cons (M.ovar 1) (M.cons (M.ovar 9) (M.nil))))) (M.nil)))) (M.cons (M.ovar 10) (M.nil))))))) (M.ret (M.cst (.bl false))) (M.skip)
def b_law_s12 : Env → SOut :=
  M.forE (M.map rng1 (M.cons (M.var 2) (M.nil))) (M.gn 11) (M.seq (M.asg 12 (M.callB tupO (M.cons (M.oval (M.lc (M.iv 9) (M.gn 5) (M.bool (M.op2 eqO (M.oval (M.op2 ixO2 (M.ovar 5) (M.ovar 11))) (M.ovar 11))) (M.var 5) [5])) (M.nil)))) (M.cond (M.not (M.op1 truO (M.oval (M.call [.an, .ow, .fz, .fz, .fz, .fz, .fz, .fz, .fz, .fz, .fz, .fz, .fz, .fz] [.an, .an] (m_law_same 6) (M.cons (M.oval (M.call [.an, .ow, .fz, .fz, .fz, .fz, .fz, .fz, .fz, .fz, .fz, .fz, .fz, .fz] [.an, .an] m_kept_by (M.cons (M.oval (M.call [.an, .ow, .fz, .fz, .fz, .fz, .fz, .fz, .fz, .fz, .fz, .fz, .fz, .fz] [.ow, .fz] (m_law_shaped 4) (M.cons (M.ovar 1) (M.cons (M.ovar 9) (M.nil))))) (M.cons (M.ovar 11) (M.nil))))) (M.cons (M.ovar 12) (M.nil))))))) (M.ret (M.cst (.bl false))) (M.skip)))
def b_law_s13 : Env → SOut :=
  M.ret (M.andV (M.call [.an, .ow, .fz, .fz, .fz, .fz, .fz, .fz, .fz, .fz, .fz, .fz, .fz, .fz] [.an, .an] m_law_is_none (M.cons (M.ovar 9) (M.cons (M.oval (M.map negO (M.cst (.int 1)))) (M.nil)))) (M.call [.an, .ow, .fz, .fz, .fz, .fz, .fz, .fz, .fz, .fz, .fz, .fz, .fz, .fz] [.an, .an] m_law_is_none (M.cons (M.ovar 9) (M.cons (M.oval (M.op2 addO (M.ovar 2) (M.oval (M.call [.an, .ow, .fz, .fz, .fz, .fz, .fz, .fz, .fz, .fz, .fz, .fz, .fz, .fz] [.ow, .an] (m_law_take 3) (M.cons (M.ovar 1) (M.cons (M.oval (M.cst (.int 3))) (M.nil))))))) (M.nil)))))
def b_law : Env → SOut :=
  M.seq (b_law_s0) (M.seq (b_law_s1) (M.seq (b_law_s2) (M.seq (b_law_s3) (M.seq (b_law_s4) (M.seq (b_law_s5) (M.seq (b_law_s6) (M.seq (b_law_s7) (M.seq (b_law_s8) (M.seq (b_law_s9) (M.seq (b_law_s10) (M.seq (b_law_s11) (M.seq (b_law_s12) (b_law_s13)))))))))))))
def m_law : List D → Out (D × List D) := M.fn [.an] .fz 14 b_law
/-- names of the module -/
structure Txt (g : G) : Prop where
  b_all : g.mg "all" = none
  b_bool : g.mg "bool" = none
  b_enumerate : g.mg "enumerate" = none
  b_int : g.mg "int" = none
  b_isinstance : g.mg "isinstance" = none
  b_len : g.mg "len" = none
  b_list : g.mg "list" = none
  b_min : g.mg "min" = none
  b_range : g.mg "range" = none
  b_set : g.mg "set" = none
  b_sorted : g.mg "sorted" = none
  b_str : g.mg "str" = none
  b_tuple : g.mg "tuple" = none
  c_LEAST_SYMBOLS : ∃ t, g.mg "LEAST_SYMBOLS" = some (.int 2 t)
  c_MOST_CHANGES : ∃ t, g.mg "MOST_CHANGES" = some (.int 24 t)
  c_MOST_GIVEN : ∃ t, g.mg "MOST_GIVEN" = some (.int 3 t)
  c_MOST_SYMBOLS : ∃ t, g.mg "MOST_SYMBOLS" = some (.int 8 t)
  e_BadChanges_NoSymbol : PySem.W.exmOne g.K (.ref (g.cA "BadChanges")) (.ref (g.cA "NoSymbol")) = some false
  e_NoSymbol_NoSymbol : PySem.W.exmOne g.K (.ref (g.cA "NoSymbol")) (.ref (g.cA "NoSymbol")) = some true
  f_NoSymbol : ExF g "NoSymbol"
  i_BadChanges : ExI g "BadChanges" ["number", "reason"]
  k_NoSymbol_MoveError : PySem.W.kitOne g.K (.ref (g.cA "NoSymbol")) (.ref (g.cA "MoveError")) = some true
  m_BadChanges : g.mg "BadChanges" = some (.ref (g.cA "BadChanges"))
  m_MoveError : g.mg "MoveError" = some (.ref (g.cA "MoveError"))
  m_NoSymbol : g.mg "NoSymbol" = some (.ref (g.cA "NoSymbol"))
  n_NoSymbol : ExN g "NoSymbol"
structure Dfs (g : G) : Prop where
  d_law_blocks : Dfn g "_law_blocks" s_law_blocks ["symbols", "size"]
  d_law_composed : Dfn g "_law_composed" s_law_composed ["first", "second"]
  d_law_round : Dfn g "_law_round" s_law_round ["symbols", "row"]
  d_law_take : Dfn g "_law_take" s_law_take ["pool", "many"]
  d_law_some : Dfn g "_law_some" s_law_some ["pool", "rows", "many"]
  d_law_candidate : Dfn g "_law_candidate" s_law_candidate ["pool", "symbols"]
  d_law_closed : Dfn g "_law_closed" s_law_closed ["symbols", "given"]
  d_law_many_given : Dfn g "_law_many_given" s_law_many_given ["pool", "symbols"]
  d_law_given : Dfn g "_law_given" s_law_given ["pool", "symbols"]
  d_kept_by : Dfn g "kept_by" s_kept_by ["changes", "symbol"]
  d_law_is_none : Dfn g "_law_is_none" s_law_is_none ["changes", "symbol"]
  d_law_pick : Dfn g "_law_pick" s_law_pick ["pool", "rows"]
  d_law_pool : Dfn g "_law_pool" s_law_pool ["script"]
  d_law_is_integer : Dfn g "_law_is_integer" s_law_is_integer ["actual"]
  d_law_same : Dfn g "_law_same" s_law_same ["actual", "due"]
  d_law_shaped : Dfn g "_law_shaped" s_law_shaped ["pool", "value"]
  d_law_symbol_orbits : Dfn g "_law_symbol_orbits" s_law_symbol_orbits ["symbols", "changes"]
  d_law_ways : Dfn g "_law_ways" s_law_ways ["symbols", "given"]
  d_symbol_orbits : Dfn g "symbol_orbits" s_symbol_orbits ["changes"]
  d_fault_of : Dfn g "fault_of" s_fault_of ["symbols", "change"]
  d_settled_changes : Dfn g "settled_changes" s_settled_changes ["symbols", "given"]
  d_composed : Dfn g "composed" s_composed ["first", "second"]
  d_unmoved : Dfn g "unmoved" s_unmoved ["symbols"]
  d_ways : Dfn g "ways" s_ways ["symbols", "given"]
  d_way_to : Dfn g "way_to" s_way_to ["symbols", "given", "change"]
theorem c_law_blocks {g : G} (T : Txt g) (Z : Dfs g) : Cal g 1 "_law_blocks" [.fz, .an] .fz m_law_blocks :=
  cal_of (N := ["symbols", "size", "found", "symbol", "other"]) (vz := [some "symbols", some "size", some "found", some "symbol", some "other"]) (k := 0) (μ' := [.fz, .an, .fz, .fz, .fz]) Z.d_law_blocks 5 fun _ _ _ _ _ _ _ ok =>
    dss_cons (ds_asgN ok 2 rfl rfl (dn_lst (da_nil))) (dss_cons (ds_for ok (x_rg1 ok T.b_range (da_cons (de_var ok 0 rfl rfl) (da_nil))) (dg_name ok 3 rfl rfl) (dss_cons (ds_asg ok 4 rfl rfl (de_if (dt_cmp (o_eq ok) s_eq (do_val (de_bin (fun _ => op_modN) s_mod (do_val (x_int ok T.b_int (dos_cons (do_val (de_bin (fun _ => op_fdivN) s_fdiv (do_var ok 3 rfl) (do_var ok 1 rfl))) (dos_nil)))) (do_val (de_int)))) (do_val (de_int)) (nomark _)) (de_bin (o_add ok) s_add (do_var ok 3 rfl) (do_var ok 1 rfl)) (de_bin (fun _ => op_sub) s_sub (do_var ok 3 rfl) (do_var ok 1 rfl)))) (dss_one (ds_drop (x_app ok 2 rfl rfl (da_cons (de_var ok 4 rfl rfl) (da_nil))))))) (dss_one (ds_ret rfl (de_if (dt_cmp (o_eq ok) s_eq (do_val (dn_de (x_sort ok T.b_sorted (dos_cons (do_var ok 2 rfl) (dos_nil))))) (do_val (dn_de (x_lstRg ok T.b_list T.b_range (de_var ok 0 rfl rfl)))) (nomark _)) (x_tup ok T.b_tuple (dos_cons (do_var ok 2 rfl) (dos_nil))) (x_tupRg ok T.b_tuple T.b_range (de_var ok 0 rfl rfl))))))
theorem c_law_composed {g : G} (T : Txt g) (Z : Dfs g) : Cal g 1 "_law_composed" [.an, .an] .fz m_law_composed :=
  cal_of (N := ["first", "second", "symbol"]) (vz := [some "first", some "second", none]) (k := 0) (μ' := [.an, .an, .fz]) Z.d_law_composed 3 fun _ _ _ _ _ _ _ ok =>
    dss_one (ds_ret rfl (x_tup ok T.b_tuple (dos_cons (do_val (dn_de (x_lc ok [none, some "second", some "symbol"] [none, none, some "symbol"] [("symbol", 2)] (di_var ok 0 rfl (by decide)) (fun ok => ⟨dg_name ok 2 rfl rfl, dts_nil, de_ix2 ok (do_var ok 1 rfl) (do_var ok 2 rfl)⟩)))) (dos_nil))))
theorem c_law_round {g : G} (T : Txt g) (Z : Dfs g) : Cal g 1 "_law_round" [.fz, .an] .fz m_law_round :=
  cal_of (N := ["symbols", "row", "found", "k"]) (vz := [some "symbols", some "row", some "found", some "k"]) (k := 0) (μ' := [.fz, .an, .fz, .fz]) Z.d_law_round 4 fun _ _ _ _ _ _ _ ok =>
    dss_cons (ds_asgN ok 2 rfl rfl (x_lstRg ok T.b_list T.b_range (de_var ok 0 rfl rfl))) (dss_cons (ds_for ok (x_rg1 ok T.b_range (da_cons (x_len ok T.b_len (dos_cons (do_var ok 1 rfl) (dos_nil))) (da_nil))) (dg_name ok 3 rfl rfl) (dss_one (ds_store2 ok 2 rfl rfl (de_ix2 ok (do_var ok 1 rfl) (do_val (de_bin (fun _ => op_modN) s_mod (do_val (x_int ok T.b_int (dos_cons (do_val (de_bin (o_add ok) s_add (do_var ok 3 rfl) (do_val (de_int)))) (dos_nil)))) (do_val (x_len ok T.b_len (dos_cons (do_var ok 1 rfl) (dos_nil))))))) (de_ix2 ok (do_var ok 1 rfl) (do_var ok 3 rfl))))) (dss_one (ds_ret rfl (x_tup ok T.b_tuple (dos_cons (do_var ok 2 rfl) (dos_nil))))))
theorem c_law_take {g : G} (T : Txt g) (Z : Dfs g) : ∀ n : Nat, Cal g (1 + n) "_law_take" [.ow, .an] .fz (m_law_take n)
  | 0 => cal_of (N := ["pool", "many", "digit", "cell", "mixed"]) (vz := [some "pool", some "many", some "digit", some "cell", some "mixed"]) (k := 0) (μ' := [.ow, .an, .fz, .fz, .fz]) Z.d_law_take 5 fun _ _ _ _ _ _ _ _ => dss_never
  | n + 1 => by
    have cs := c_law_take T Z n
    exact cal_of (N := ["pool", "many", "digit", "cell", "mixed"]) (vz := [some "pool", some "many", some "digit", some "cell", some "mixed"]) (k := 1 + n) (μ' := [.ow, .an, .fz, .fz, .fz]) Z.d_law_take 5 fun _ _ _ _ _ _ _ ok =>
      dss_cons (ds_if (dt_cmp (fun _ => op_gt) s_gt (do_val (de_ix2 ok (do_var ok 0 rfl) (do_val (de_int)))) (do_val (de_int)) (nomark _)) (dss_cons (ds_asg ok 2 rfl rfl (de_bin (fun _ => op_modN) s_mod (do_val (x_int ok T.b_int (dos_cons (do_val (de_ix2 ok (do_var ok 0 rfl) (do_val (de_int)))) (dos_nil)))) (do_var ok 1 rfl))) (dss_cons (ds_store2 ok 0 rfl rfl (de_bin (fun _ => op_fdivN) s_fdiv (do_val (de_ix2 ok (do_var ok 0 rfl) (do_val (de_int)))) (do_var ok 1 rfl)) (de_int)) (dss_one (ds_ret rfl (de_var ok 2 rfl rfl))))) (dss_nil)) (dss_cons (ds_asg ok 3 rfl rfl (de_int)) (dss_cons (ds_if (dt_cmp (fun _ => op_lt) s_lt (do_val (de_ix2 ok (do_var ok 0 rfl) (do_val (de_int)))) (do_val (x_len ok T.b_len (dos_cons (do_val (de_ix2 ok (do_var ok 0 rfl) (do_val (de_int)))) (dos_nil)))) (nomark _)) (dss_one (ds_asg ok 3 rfl rfl (de_ix2 ok (do_val (de_ix2 ok (do_var ok 0 rfl) (do_val (de_int)))) (do_val (de_ix2 ok (do_var ok 0 rfl) (do_val (de_int))))))) (dss_nil)) (dss_cons (ds_store2 ok 0 rfl rfl (de_bin (o_add ok) s_add (do_val (de_ix2 ok (do_var ok 0 rfl) (do_val (de_int)))) (do_val (de_int))) (de_int)) (dss_cons (ds_if (dt_cmp (fun _ => op_ge) s_ge (do_var ok 3 rfl) (do_val (de_bin (fun _ => op_pow) s_pow (do_val (de_int)) (do_val (de_int)))) (nomark _)) (dss_cons (ds_store2 ok 0 rfl rfl (de_bin (fun _ => op_fdivN) s_fdiv (do_var ok 3 rfl) (do_val (de_int))) (de_int)) (dss_one (ds_ret rfl (x_call ok cs (dos_cons (do_var ok 0 rfl) (dos_cons (do_var ok 1 rfl) (dos_nil))))))) (dss_nil)) (dss_cons (ds_store2 ok 0 rfl rfl (de_bin (fun _ => op_modN) s_mod (do_val (x_int ok T.b_int (dos_cons (do_val (de_bin (o_add ok) s_add (do_val (de_bin (o_add ok) s_add (do_val (de_bin o_mul s_mul (do_val (de_ix2 ok (do_var ok 0 rfl) (do_val (de_int)))) (do_val (de_int)))) (do_val (de_bin o_mul s_mul (do_var ok 3 rfl) (do_val (de_int)))))) (do_val (de_bin o_mul s_mul (do_val (de_ix2 ok (do_var ok 0 rfl) (do_val (de_int)))) (do_val (de_int)))))) (dos_nil)))) (do_val (de_int))) (de_int)) (dss_cons (ds_asg ok 4 rfl rfl (de_bin (fun _ => op_modN) s_mod (do_val (x_int ok T.b_int (dos_cons (do_val (de_bin (o_add ok) s_add (do_val (de_bin (o_add ok) s_add (do_val (de_bin o_mul s_mul (do_val (de_ix2 ok (do_var ok 0 rfl) (do_val (de_int)))) (do_val (de_ix2 ok (do_var ok 0 rfl) (do_val (de_int)))))) (do_val (de_bin o_mul s_mul (do_val (de_ix2 ok (do_var ok 0 rfl) (do_val (de_int)))) (do_val (de_int)))))) (do_val (de_int)))) (dos_nil)))) (do_val (de_int)))) (dss_one (ds_ret rfl (de_bin (fun _ => op_modN) s_mod (do_val (x_int ok T.b_int (dos_cons (do_val (de_bin (fun _ => op_fdivN) s_fdiv (do_var ok 4 rfl) (do_val (de_int)))) (dos_nil)))) (do_var ok 1 rfl))))))))))
theorem c_law_some {g : G} (T : Txt g) (Z : Dfs g) : Cal g 5 "_law_some" [.ow, .an, .an] .fz m_law_some :=
  cal_of (N := ["pool", "rows", "many", "left", "found", "k"]) (vz := [some "pool", some "rows", some "many", some "left", some "found", some "k"]) (k := 4) (μ' := [.ow, .an, .an, .fz, .fz, .fz]) Z.d_law_some 6 fun _ _ _ _ _ _ _ ok =>
    dss_cons (ds_asgN ok 3 rfl rfl (x_lst ok T.b_list (dos_cons (do_var ok 1 rfl) (dos_nil)))) (dss_cons (ds_asgN ok 4 rfl rfl (dn_lst (da_nil))) (dss_cons (ds_for ok (x_rg1 ok T.b_range (da_cons (x_min ok T.b_min (dos_cons (do_var ok 2 rfl) (dos_cons (do_val (x_len ok T.b_len (dos_cons (do_var ok 1 rfl) (dos_nil)))) (dos_nil)))) (da_nil))) (dg_name ok 5 rfl rfl) (dss_one (ds_drop (x_app ok 4 rfl rfl (da_cons (x_pop ok 3 rfl rfl (da_cons (x_call ok (c_law_take T Z 3) (dos_cons (do_var ok 0 rfl) (dos_cons (do_val (x_len ok T.b_len (dos_cons (do_var ok 3 rfl) (dos_nil)))) (dos_nil)))) (da_nil))) (da_nil)))))) (dss_one (ds_fz 4 rfl (ds_ret rfl (de_var ok 4 rfl rfl))))))
theorem c_law_candidate {g : G} (T : Txt g) (Z : Dfs g) : Cal g 6 "_law_candidate" [.ow, .fz] .fz m_law_candidate :=
  cal_of (N := ["pool", "symbols", "kind", "row", "by", "symbol"]) (vz := [some "pool", some "symbols", some "kind", some "row", some "by", none]) (k := 5) (μ' := [.ow, .fz, .fz, .fz, .fz, .fz]) Z.d_law_candidate 6 fun _ _ _ _ _ _ _ ok =>
    dss_cons (ds_asg ok 2 rfl rfl (x_call ok (c_law_take T Z 3) (dos_cons (do_var ok 0 rfl) (dos_cons (do_val (de_int)) (dos_nil))))) (dss_cons (ds_asg ok 3 rfl rfl (x_call ok (c_law_some T Z) (dos_cons (do_var ok 0 rfl) (dos_cons (do_val (dn_de (x_lstRg ok T.b_list T.b_range (de_var ok 1 rfl rfl)))) (dos_cons (do_var ok 1 rfl) (dos_nil)))))) (dss_cons (ds_if (dt_cmp (o_eq ok) s_eq (do_var ok 2 rfl) (do_val (de_int)) (nomark _)) (dss_one (ds_ret rfl (x_call ok (c_law_round T Z) (dos_cons (do_var ok 1 rfl) (dos_cons (do_val (de_slice ok (do_var ok 3 rfl) (dp_none) (dp_some (de_int)))) (dos_nil)))))) (dss_nil)) (dss_cons (ds_if (dt_cmp (o_eq ok) s_eq (do_var ok 2 rfl) (do_val (de_int)) (nomark _)) (dss_one (ds_ret rfl (x_call ok (c_law_round T Z) (dos_cons (do_var ok 1 rfl) (dos_cons (do_val (de_slice ok (do_var ok 3 rfl) (dp_none) (dp_some (de_bin (o_add ok) s_add (do_val (de_int)) (do_val (x_call ok (c_law_take T Z 3) (dos_cons (do_var ok 0 rfl) (dos_cons (do_val (de_bin (fun _ => op_sub) s_sub (do_var ok 1 rfl) (do_val (de_int)))) (dos_nil))))))))) (dos_nil)))))) (dss_nil)) (dss_cons (ds_if (dt_cmp (o_eq ok) s_eq (do_var ok 2 rfl) (do_val (de_int)) (nomark _)) (dss_one (ds_ret rfl (x_call ok (c_law_composed T Z) (dos_cons (do_val (x_call ok (c_law_round T Z) (dos_cons (do_var ok 1 rfl) (dos_cons (do_val (de_slice ok (do_var ok 3 rfl) (dp_none) (dp_some (de_int)))) (dos_nil))))) (dos_cons (do_val (x_call ok (c_law_round T Z) (dos_cons (do_var ok 1 rfl) (dos_cons (do_val (de_slice ok (do_var ok 3 rfl) (dp_some (de_int)) (dp_some (de_int)))) (dos_nil))))) (dos_nil)))))) (dss_nil)) (dss_cons (ds_if (dt_cmp (o_eq ok) s_eq (do_var ok 2 rfl) (do_val (de_int)) (nomark _)) (dss_cons (ds_asg ok 4 rfl rfl (x_call ok (c_law_take T Z 3) (dos_cons (do_var ok 0 rfl) (dos_cons (do_var ok 1 rfl) (dos_nil))))) (dss_one (ds_ret rfl (x_tup ok T.b_tuple (dos_cons (do_val (dn_de (x_lc ok [none, some "symbols", none, none, some "by", some "symbol"] [none, none, none, none, none, some "symbol"] [("symbol", 5)] (x_rg1 ok T.b_range (da_cons (de_var ok 1 rfl rfl) (da_nil))) (fun ok => ⟨dg_name ok 5 rfl rfl, dts_nil, de_bin (fun _ => op_modN) s_mod (do_val (x_int ok T.b_int (dos_cons (do_val (de_bin (o_add ok) s_add (do_var ok 5 rfl) (do_var ok 4 rfl))) (dos_nil)))) (do_var ok 1 rfl)⟩)))) (dos_nil)))))) (dss_nil)) (dss_cons (ds_if (dt_cmp (o_eq ok) s_eq (do_var ok 2 rfl) (do_val (de_int)) (nomark _)) (dss_one (ds_ret rfl (x_tup ok T.b_tuple (dos_cons (do_val (dn_de (x_lc ok [none, some "symbols", none, none, none, some "symbol"] [none, none, none, none, none, some "symbol"] [("symbol", 5)] (x_rg1 ok T.b_range (da_cons (de_var ok 1 rfl rfl) (da_nil))) (fun ok => ⟨dg_name ok 5 rfl rfl, dts_nil, de_bin (fun _ => op_sub) s_sub (do_val (de_bin (fun _ => op_sub) s_sub (do_var ok 1 rfl) (do_val (de_int)))) (do_var ok 5 rfl)⟩)))) (dos_nil))))) (dss_nil)) (dss_cons (ds_if (dt_cmp (o_eq ok) s_eq (do_var ok 2 rfl) (do_val (de_int)) (nomark _)) (dss_one (ds_ret rfl (x_call ok (c_law_blocks T Z) (dos_cons (do_var ok 1 rfl) (dos_cons (do_val (de_ix2 ok (do_val (de_tup (da_cons (de_int) (da_cons (de_int) (da_cons (de_int) (da_nil)))))) (do_val (x_call ok (c_law_take T Z 3) (dos_cons (do_var ok 0 rfl) (dos_cons (do_val (de_int)) (dos_nil))))))) (dos_nil)))))) (dss_nil)) (dss_cons (ds_if (dt_cmp (o_eq ok) s_eq (do_var ok 2 rfl) (do_val (de_int)) (nomark _)) (dss_one (ds_ret rfl (x_call ok (c_law_composed T Z) (dos_cons (do_val (x_call ok (c_law_round T Z) (dos_cons (do_var ok 1 rfl) (dos_cons (do_val (de_slice ok (do_var ok 3 rfl) (dp_none) (dp_some (de_int)))) (dos_nil))))) (dos_cons (do_val (x_call ok (c_law_round T Z) (dos_cons (do_var ok 1 rfl) (dos_cons (do_val (de_slice ok (do_var ok 3 rfl) (dp_some (de_int)) (dp_some (de_int)))) (dos_nil))))) (dos_nil)))))) (dss_nil)) (dss_one (ds_ret rfl (x_tup ok T.b_tuple (dos_cons (do_var ok 3 rfl) (dos_nil)))))))))))))
theorem c_law_closed {g : G} (T : Txt g) (Z : Dfs g) : Cal g 2 "_law_closed" [.fz, .an] .fz m_law_closed :=
  cal_of (N := ["symbols", "given", "found", "k", "change", "made"]) (vz := [some "symbols", some "given", some "found", some "k", some "change", some "made"]) (k := 1) (μ' := [.fz, .an, .fz, .fz, .fz, .fz]) Z.d_law_closed 6 fun _ _ _ _ _ _ _ ok =>
    dss_cons (ds_asgN ok 2 rfl rfl (dn_lst (da_cons (x_tupRg ok T.b_tuple T.b_range (de_var ok 0 rfl rfl)) (da_nil)))) (dss_cons (ds_for ok (x_rg1 ok T.b_range (da_cons (de_int) (da_nil))) (dg_name ok 3 rfl rfl) (dss_one (ds_if (dt_cmp (fun _ => op_lt) s_lt (do_var ok 3 rfl) (do_val (x_len ok T.b_len (dos_cons (do_var ok 2 rfl) (dos_nil)))) (nomark _)) (dss_one (ds_for ok (di_var ok 1 rfl (by decide)) (dg_name ok 4 rfl rfl) (dss_cons (ds_asg ok 5 rfl rfl (x_call ok (c_law_composed T Z) (dos_cons (do_val (de_ix2 ok (do_var ok 2 rfl) (do_var ok 3 rfl))) (dos_cons (do_var ok 4 rfl) (dos_nil))))) (dss_one (ds_if (dt_cmp (o_notIn2 ok) s_notIn2 (do_var ok 5 rfl) (do_var ok 2 rfl) (by with_unfolding_all rfl)) (dss_one (ds_drop (x_app ok 2 rfl rfl (da_cons (de_var ok 5 rfl rfl) (da_nil))))) (dss_nil)))))) (dss_nil)))) (dss_one (ds_ret rfl (de_if (dt_cmp (fun _ => op_lt) s_lt (do_val (x_len ok T.b_len (dos_cons (do_var ok 2 rfl) (dos_nil)))) (do_val (de_int)) (nomark _)) (x_tup ok T.b_tuple (dos_cons (do_val (dn_de (x_sort ok T.b_sorted (dos_cons (do_var ok 2 rfl) (dos_nil))))) (dos_nil))) (de_non)))))
theorem c_law_many_given {g : G} (T : Txt g) (Z : Dfs g) : Cal g 6 "_law_many_given" [.ow, .fz] .fz m_law_many_given :=
  cal_of (N := ["pool", "symbols", "row", "mixed", "back", "k"]) (vz := [some "pool", some "symbols", some "row", some "mixed", some "back", some "k"]) (k := 5) (μ' := [.ow, .fz, .fz, .fz, .fz, .fz]) Z.d_law_many_given 6 fun _ _ _ _ _ _ _ ok =>
    dss_cons (ds_asg ok 2 rfl rfl (x_call ok (c_law_some T Z) (dos_cons (do_var ok 0 rfl) (dos_cons (do_val (dn_de (x_lstRg ok T.b_list T.b_range (de_var ok 1 rfl rfl)))) (dos_cons (do_val (de_int)) (dos_nil)))))) (dss_cons (ds_if (dt_cmp (o_eq ok) s_eq (do_val (x_call ok (c_law_take T Z 3) (dos_cons (do_var ok 0 rfl) (dos_cons (do_val (de_int)) (dos_nil))))) (do_val (de_int)) (nomark _)) (dss_one (ds_ret rfl (dn_de (dn_lst (da_cons (x_call ok (c_law_round T Z) (dos_cons (do_var ok 1 rfl) (dos_cons (do_val (de_slice ok (do_var ok 2 rfl) (dp_none) (dp_some (de_int)))) (dos_nil)))) (da_cons (x_call ok (c_law_round T Z) (dos_cons (do_var ok 1 rfl) (dos_cons (do_var ok 2 rfl) (dos_nil)))) (da_nil))))))) (dss_nil)) (dss_cons (ds_asg ok 3 rfl rfl (x_call ok (c_law_some T Z) (dos_cons (do_var ok 0 rfl) (dos_cons (do_val (dn_de (x_lstRg ok T.b_list T.b_range (de_var ok 1 rfl rfl)))) (dos_cons (do_var ok 1 rfl) (dos_nil)))))) (dss_cons (ds_asgN ok 4 rfl rfl (x_lstRg ok T.b_list T.b_range (de_var ok 1 rfl rfl))) (dss_cons (ds_for ok (x_rg1 ok T.b_range (da_cons (de_var ok 1 rfl rfl) (da_nil))) (dg_name ok 5 rfl rfl) (dss_one (ds_store2 ok 4 rfl rfl (de_ix2 ok (do_var ok 3 rfl) (do_val (de_bin (fun _ => op_sub) s_sub (do_val (de_bin (fun _ => op_sub) s_sub (do_var ok 1 rfl) (do_val (de_int)))) (do_var ok 5 rfl)))) (de_ix2 ok (do_var ok 3 rfl) (do_var ok 5 rfl))))) (dss_one (ds_ret rfl (dn_de (dn_lst (da_cons (x_call ok (c_law_round T Z) (dos_cons (do_var ok 1 rfl) (dos_cons (do_var ok 3 rfl) (dos_nil)))) (da_cons (x_tup ok T.b_tuple (dos_cons (do_var ok 4 rfl) (dos_nil))) (da_nil)))))))))))
theorem c_law_given {g : G} (T : Txt g) (Z : Dfs g) : Cal g 7 "_law_given" [.ow, .fz] .fz m_law_given :=
  cal_of (N := ["pool", "symbols", "kept", "k", "change"]) (vz := [some "pool", some "symbols", some "kept", some "k", some "change"]) (k := 6) (μ' := [.ow, .fz, .fz, .fz, .fz]) Z.d_law_given 5 fun _ _ _ _ _ _ _ ok =>
    dss_cons (ds_asg ok 2 rfl rfl (dn_de (dn_lst (da_nil)))) (dss_cons (ds_if (dt_cmp (o_eq ok) s_eq (do_val (x_call ok (c_law_take T Z 3) (dos_cons (do_var ok 0 rfl) (dos_cons (do_val (de_int)) (dos_nil))))) (do_val (de_int)) (nomark _)) (dss_one (ds_asg ok 2 rfl rfl (x_call ok (c_law_many_given T Z) (dos_cons (do_var ok 0 rfl) (dos_cons (do_var ok 1 rfl) (dos_nil)))))) (dss_nil)) (dss_cons (ds_for ok (x_rg1 ok T.b_range (da_cons (x_call ok (c_law_take T Z 3) (dos_cons (do_var ok 0 rfl) (dos_cons (do_val (de_int)) (dos_nil)))) (da_nil))) (dg_name ok 3 rfl rfl) (dss_cons (ds_asg ok 4 rfl rfl (x_call ok (c_law_candidate T Z) (dos_cons (do_var ok 0 rfl) (dos_cons (do_var ok 1 rfl) (dos_nil))))) (dss_one (ds_if (dt_w (dw_and (dt_cmp (fun _ => op_lt) s_lt (do_val (x_len ok T.b_len (dos_cons (do_var ok 2 rfl) (dos_nil)))) (do_val (de_int)) (nomark _)) (dw_and1 (dt_cmp (fun _ => op_notN) s_notN (do_val (x_call ok (c_law_closed T Z) (dos_cons (do_var ok 1 rfl) (dos_cons (do_val (de_bin (o_add ok) s_add (do_var ok 2 rfl) (do_val (dn_de (dn_lst (da_cons (de_var ok 4 rfl rfl) (da_nil))))))) (dos_nil))))) (do_val (de_non)) (nomark _))))) (dss_one (ds_asg ok 2 rfl rfl (de_bin (o_add ok) s_add (do_var ok 2 rfl) (do_val (dn_de (dn_lst (da_cons (de_var ok 4 rfl rfl) (da_nil)))))))) (dss_nil))))) (dss_one (ds_ret rfl (x_call ok (c_law_some T Z) (dos_cons (do_var ok 0 rfl) (dos_cons (do_var ok 2 rfl) (dos_cons (do_val (de_int)) (dos_nil)))))))))
theorem c_kept_by {g : G} (T : Txt g) (Z : Dfs g) : Cal g 1 "kept_by" [.an, .an] .fz m_kept_by :=
  cal_of (N := ["changes", "symbol", "change"]) (vz := [some "changes", some "symbol", none]) (k := 0) (μ' := [.an, .an, .fz]) Z.d_kept_by 3 fun _ _ _ _ _ _ _ ok =>
    dss_cons (ds_if (dt_not (dt_chain ok (fun _ => op_le) s_le (fun _ => op_lt) s_lt (do_val (de_int)) (do_var ok 1 rfl) (do_val (x_len ok T.b_len (dos_cons (do_val (de_ix2 ok (do_var ok 0 rfl) (do_val (de_int)))) (dos_nil)))))) (dss_one (ds_raise ok (dm_own0 ok T.n_NoSymbol))) (dss_nil)) (dss_one (ds_ret rfl (x_tup ok T.b_tuple (dos_cons (do_val (dn_de (x_lc ok [none, some "symbol", some "change"] [none, none, some "change"] [("change", 2)] (di_var ok 0 rfl (by decide)) (fun ok => ⟨dg_name ok 2 rfl rfl, dts_one (dt_cmp (o_eq ok) s_eq (do_val (de_ix2 ok (do_var ok 2 rfl) (do_var ok 1 rfl))) (do_var ok 1 rfl) (nomark _)), x_tup ok T.b_tuple (dos_cons (do_var ok 2 rfl) (dos_nil))⟩)))) (dos_nil)))))
theorem c_law_is_none {g : G} (T : Txt g) (Z : Dfs g) : Cal g 2 "_law_is_none" [.an, .an] .fz m_law_is_none :=
  cal_of (N := ["changes", "symbol", "wrong"]) (vz := [some "changes", some "symbol", some "wrong"]) (k := 1) (μ' := [.an, .an, .fz]) Z.d_law_is_none 3 fun _ _ _ _ _ _ _ ok =>
    dss_cons (ds_try ok rfl (fun _ => rfl) (fun _ => rfl) (fun W ok => dss_one (ds_drop (x_call ok (c_kept_by T Z) (dos_cons (do_var ok 0 rfl) (dos_cons (do_var ok 1 rfl) (dos_nil)))))) (.as (i := 2) rfl (fun _ => rfl) (Nat.le_of_ble_eq_true rfl) (names_of ok T.m_NoSymbol) (List.forall_mem_cons.mpr ⟨T.e_NoSymbol_NoSymbol, List.forall_mem_nil _⟩) (List.forall_mem_cons.mpr ⟨T.e_BadChanges_NoSymbol, List.forall_mem_nil _⟩) (he_is ok (k := 2) T.f_NoSymbol T.k_NoSymbol_MoveError T.m_MoveError rfl T.b_isinstance) .nil)) (dss_one (ds_ret rfl (de_bl)))
theorem c_law_pick {g : G} (T : Txt g) (Z : Dfs g) : Cal g 5 "_law_pick" [.ow, .an] .fz m_law_pick :=
  cal_of (N := ["pool", "rows"]) (vz := [some "pool", some "rows"]) (k := 4) (μ' := [.ow, .an]) Z.d_law_pick 2 fun _ _ _ _ _ _ _ ok =>
    dss_one (ds_ret rfl (de_ix2 ok (do_var ok 1 rfl) (do_val (x_call ok (c_law_take T Z 3) (dos_cons (do_var ok 0 rfl) (dos_cons (do_val (x_len ok T.b_len (dos_cons (do_var ok 1 rfl) (dos_nil)))) (dos_nil)))))))
theorem c_law_pool {g : G} (T : Txt g) (Z : Dfs g) : Cal g 1 "_law_pool" [.an] .ow m_law_pool :=
  cal_of (N := ["script", "cell"]) (vz := [some "script", none]) (k := 0) (μ' := [.an, .fz]) Z.d_law_pool 2 fun _ _ _ _ _ _ _ ok =>
    dss_one (ds_retD rfl (dn_lst (da_cons (dn_de (x_lc ok [none, some "cell"] [none, some "cell"] [("cell", 1)] (di_var ok 0 rfl (by decide)) (fun ok => ⟨dg_name ok 1 rfl rfl, dts_nil, de_if (dt_cmp (fun _ => op_ge) s_ge (do_var ok 1 rfl) (do_val (de_int)) (nomark _)) (de_bin o_mul s_mul (do_val (de_int)) (do_var ok 1 rfl)) (de_bin (fun _ => op_sub) s_sub (do_val (de_bin o_mul s_mul (do_val (de_neg (de_int))) (do_var ok 1 rfl))) (do_val (de_int)))⟩))) (da_cons (de_int) (da_cons (de_int) (da_cons (de_int) (da_nil)))))))
theorem c_law_is_integer {g : G} (T : Txt g) (Z : Dfs g) : Cal g 1 "_law_is_integer" [.an] .fz m_law_is_integer :=
  cal_of (N := ["actual"]) (vz := [some "actual"]) (k := 0) (μ' := [.an]) Z.d_law_is_integer 1 fun _ _ _ _ _ _ _ ok =>
    dss_one (ds_ret rfl (de_and (x_is ok T.b_isinstance .int T.b_int (do_var ok 0 rfl)) (de_one (de_not (x_is ok T.b_isinstance .bool T.b_bool (do_var ok 0 rfl))))))
theorem c_law_same {g : G} (T : Txt g) (Z : Dfs g) : ∀ n : Nat, Cal g (2 + n) "_law_same" [.an, .an] .fz (m_law_same n)
  | 0 => cal_of (N := ["actual", "due", "k"]) (vz := [some "actual", some "due", none]) (k := 1) (μ' := [.an, .an, .fz]) Z.d_law_same 3 fun _ _ _ _ _ _ _ _ => dss_never
  | n + 1 => by
    have cs := c_law_same T Z n
    exact cal_of (N := ["actual", "due", "k"]) (vz := [some "actual", some "due", none]) (k := 2 + n) (μ' := [.an, .an, .fz]) Z.d_law_same 3 fun _ _ _ _ _ _ _ ok =>
      dss_cons (ds_if (dt_val (fun _ _ => rfl) (x_is ok T.b_isinstance .tuple T.b_tuple (do_var ok 1 rfl))) (dss_cons (ds_if (dt_w (dw_or (dt_not (dt_val (fun _ _ => rfl) (x_is ok T.b_isinstance .tuple T.b_tuple (do_var ok 0 rfl)))) (dw_or1 (dt_cmp (o_ne ok) s_ne (do_val (x_len ok T.b_len (dos_cons (do_var ok 0 rfl) (dos_nil)))) (do_val (x_len ok T.b_len (dos_cons (do_var ok 1 rfl) (dos_nil)))) (nomark _))))) (dss_one (ds_ret rfl (de_bl))) (dss_nil)) (dss_one (ds_ret rfl (x_all ok T.b_all (dos_cons (do_val (dn_de (x_lc ok [some "actual", some "due", some "k"] [none, none, some "k"] [("k", 2)] (x_rg1 ok T.b_range (da_cons (x_len ok T.b_len (dos_cons (do_var ok 1 rfl) (dos_nil))) (da_nil))) (fun ok => ⟨dg_name ok 2 rfl rfl, dts_nil, x_call ok cs (dos_cons (do_val (de_ix2 ok (do_var ok 0 rfl) (do_var ok 2 rfl))) (dos_cons (do_val (de_ix2 ok (do_var ok 1 rfl) (do_var ok 2 rfl))) (dos_nil)))⟩)))) (dos_nil)))))) (dss_nil)) (dss_cons (ds_if (dt_val (fun _ _ => rfl) (x_is ok T.b_isinstance .list T.b_list (do_var ok 1 rfl))) (dss_cons (ds_if (dt_w (dw_or (dt_not (dt_val (fun _ _ => rfl) (x_is ok T.b_isinstance .list T.b_list (do_var ok 0 rfl)))) (dw_or1 (dt_cmp (o_ne ok) s_ne (do_val (x_len ok T.b_len (dos_cons (do_var ok 0 rfl) (dos_nil)))) (do_val (x_len ok T.b_len (dos_cons (do_var ok 1 rfl) (dos_nil)))) (nomark _))))) (dss_one (ds_ret rfl (de_bl))) (dss_nil)) (dss_one (ds_ret rfl (x_all ok T.b_all (dos_cons (do_val (dn_de (x_lc ok [some "actual", some "due", some "k"] [none, none, some "k"] [("k", 2)] (x_rg1 ok T.b_range (da_cons (x_len ok T.b_len (dos_cons (do_var ok 1 rfl) (dos_nil))) (da_nil))) (fun ok => ⟨dg_name ok 2 rfl rfl, dts_nil, x_call ok cs (dos_cons (do_val (de_ix2 ok (do_var ok 0 rfl) (do_var ok 2 rfl))) (dos_cons (do_val (de_ix2 ok (do_var ok 1 rfl) (do_var ok 2 rfl))) (dos_nil)))⟩)))) (dos_nil)))))) (dss_nil)) (dss_cons (ds_if (dt_cmp (fun _ => op_isN) s_isN (do_var ok 1 rfl) (do_val (de_non)) (nomark _)) (dss_one (ds_ret rfl (de_cmp (fun _ => op_isN) s_isN (do_var ok 0 rfl) (do_val (de_non)) (nomark _)))) (dss_nil)) (dss_cons (ds_if (dt_val (fun _ _ => rfl) (x_is ok T.b_isinstance .bool T.b_bool (do_var ok 1 rfl))) (dss_one (ds_ret rfl (de_and (x_is ok T.b_isinstance .bool T.b_bool (do_var ok 0 rfl)) (de_one (de_cmp (o_eq ok) s_eq (do_var ok 0 rfl) (do_var ok 1 rfl) (nomark _)))))) (dss_nil)) (dss_cons (ds_if (dt_val (fun _ _ => rfl) (x_is ok T.b_isinstance .str T.b_str (do_var ok 1 rfl))) (dss_one (ds_ret rfl (de_and (x_is ok T.b_isinstance .str T.b_str (do_var ok 0 rfl)) (de_one (de_cmp (o_eq ok) s_eq (do_var ok 0 rfl) (do_var ok 1 rfl) (nomark _)))))) (dss_nil)) (dss_one (ds_ret rfl (de_and (x_call ok (c_law_is_integer T Z) (dos_cons (do_var ok 0 rfl) (dos_nil))) (de_one (de_cmp (o_eq ok) s_eq (do_var ok 0 rfl) (do_var ok 1 rfl) (nomark _))))))))))
theorem c_law_shaped {g : G} (T : Txt g) (Z : Dfs g) : ∀ n : Nat, Cal g (5 + n) "_law_shaped" [.ow, .fz] .fz (m_law_shaped n)
  | 0 => cal_of (N := ["pool", "value", "parts", "part"]) (vz := [some "pool", some "value", some "parts", none]) (k := 4) (μ' := [.ow, .fz, .fz, .fz]) Z.d_law_shaped 4 fun _ _ _ _ _ _ _ _ => dss_never
  | n + 1 => by
    have cs := c_law_shaped T Z n
    exact cal_of (N := ["pool", "value", "parts", "part"]) (vz := [some "pool", some "value", some "parts", none]) (k := 5 + n) (μ' := [.ow, .fz, .fz, .fz]) Z.d_law_shaped 4 fun _ _ _ _ _ _ _ ok =>
      dss_cons (ds_if (dt_not (dt_val (fun _ _ => rfl) (x_is2 ok T.b_isinstance .tuple .list T.b_tuple T.b_list (do_var ok 1 rfl)))) (dss_one (ds_ret rfl (de_var ok 1 rfl rfl))) (dss_nil)) (dss_cons (x_asgLc ok 2 rfl rfl [some "pool", none, none, some "part"] [none, none, none, some "part"] [("part", 3)] (di_var ok 1 rfl (by decide)) (fun ok => ⟨dg_name ok 3 rfl rfl, dts_nil, x_call ok cs (dos_cons (do_var ok 0 rfl) (dos_cons (do_var ok 3 rfl) (dos_nil)))⟩)) (dss_one (ds_ret rfl (de_if (dt_cmp (o_eq ok) s_eq (do_val (x_call ok (c_law_take T Z 3) (dos_cons (do_var ok 0 rfl) (dos_cons (do_val (de_int)) (dos_nil))))) (do_val (de_int)) (nomark _)) (de_var ok 2 rfl rfl) (x_tup ok T.b_tuple (dos_cons (do_var ok 2 rfl) (dos_nil)))))))
theorem c_law_symbol_orbits {g : G} (T : Txt g) (Z : Dfs g) : Cal g 1 "_law_symbol_orbits" [.fz, .an] .fz m_law_symbol_orbits :=
  cal_of (N := ["symbols", "changes", "found", "symbol", "orbit", "change"]) (vz := [some "symbols", some "changes", some "found", some "symbol", some "orbit", none]) (k := 0) (μ' := [.fz, .an, .fz, .fz, .fz, .fz]) Z.d_law_symbol_orbits 6 fun _ _ _ _ _ _ _ ok =>
    dss_cons (ds_asgN ok 2 rfl rfl (dn_lst (da_nil))) (dss_cons (ds_for ok (x_rg1 ok T.b_range (da_cons (de_var ok 0 rfl rfl) (da_nil))) (dg_name ok 3 rfl rfl) (dss_cons (ds_asg ok 4 rfl rfl (dn_de (x_sort3 ok T.b_sorted (dos_cons (do_val (x_set ok T.b_set (dos_cons (do_val (dn_de (x_lc ok [none, none, none, some "symbol", none, some "change"] [none, none, none, none, none, some "change"] [("change", 5)] (di_var ok 1 rfl (by decide)) (fun ok => ⟨dg_name ok 5 rfl rfl, dts_nil, de_ix2 ok (do_var ok 5 rfl) (do_var ok 3 rfl)⟩)))) (dos_nil)))) (dos_nil))))) (dss_one (ds_if (dt_cmp (o_eq ok) s_eq (do_val (de_ix2 ok (do_var ok 4 rfl) (do_val (de_int)))) (do_var ok 3 rfl) (nomark _)) (dss_one (ds_drop (x_app ok 2 rfl rfl (da_cons (de_var ok 4 rfl rfl) (da_nil))))) (dss_nil))))) (dss_one (ds_fz 2 rfl (ds_ret rfl (de_var ok 2 rfl rfl)))))
theorem c_law_ways {g : G} (T : Txt g) (Z : Dfs g) : Cal g 2 "_law_ways" [.fz, .an] .fz m_law_ways :=
  cal_of (N := ["symbols", "given", "found", "last", "length", "rows", "way", "made", "number", "longer"]) (vz := [some "symbols", some "given", some "found", some "last", some "length", some "rows", some "way", some "made", some "number", some "longer"]) (k := 1) (μ' := [.fz, .an, .fz, .fz, .fz, .fz, .fz, .fz, .fz, .fz]) Z.d_law_ways 10 fun _ _ _ _ _ _ _ ok =>
    dss_cons (ds_asgN ok 2 rfl rfl (dn_disp ok (dps_cons (x_tupRg ok T.b_tuple T.b_range (de_var ok 0 rfl rfl)) (de_tup (da_nil)) (dps_nil)))) (dss_cons (ds_asg ok 3 rfl rfl (dn_de (dn_lst (da_cons (de_tup (da_cons (de_tup (da_nil)) (da_cons (x_tupRg ok T.b_tuple T.b_range (de_var ok 0 rfl rfl)) (da_nil)))) (da_nil))))) (dss_cons (ds_for ok (x_rg1 ok T.b_range (da_cons (de_int) (da_nil))) (dg_name ok 4 rfl rfl) (dss_cons (ds_asgN ok 5 rfl rfl (dn_lst (da_nil))) (dss_cons (ds_for ok (di_var ok 3 rfl (by decide)) (dg_tup ok (dgs_cons (dg_name ok 6 rfl rfl) (dgs_cons (dg_name ok 7 rfl rfl) (dgs_nil)))) (dss_one (ds_for ok (x_rg1 ok T.b_range (da_cons (x_len ok T.b_len (dos_cons (do_var ok 1 rfl) (dos_nil))) (da_nil))) (dg_name ok 8 rfl rfl) (dss_cons (ds_asg ok 9 rfl rfl (x_call ok (c_law_composed T Z) (dos_cons (do_var ok 7 rfl) (dos_cons (do_val (de_ix2 ok (do_var ok 1 rfl) (do_var ok 8 rfl))) (dos_nil))))) (dss_one (ds_if (dt_cmp (o_notIn2 ok) s_notIn2 (do_var ok 9 rfl) (do_var ok 2 rfl) (by with_unfolding_all rfl)) (dss_cons (ds_store2 ok 2 rfl rfl (de_bin (o_add ok) s_add (do_var ok 6 rfl) (do_val (de_tup (da_cons (de_var ok 8 rfl rfl) (da_nil))))) (de_var ok 9 rfl rfl)) (dss_one (ds_drop (x_app ok 5 rfl rfl (da_cons (de_tup (da_cons (de_bin (o_add ok) s_add (do_var ok 6 rfl) (do_val (de_tup (da_cons (de_var ok 8 rfl rfl) (da_nil))))) (da_cons (de_var ok 9 rfl rfl) (da_nil)))) (da_nil)))))) (dss_nil))))))) (dss_one (ds_fz 5 rfl (ds_asg ok 3 rfl rfl (de_var ok 5 rfl rfl))))))) (dss_one (ds_fz 2 rfl (ds_ret rfl (de_var ok 2 rfl rfl))))))
theorem c_symbol_orbits {g : G} (T : Txt g) (Z : Dfs g) : Cal g 1 "symbol_orbits" [.an] .fz m_symbol_orbits :=
  cal_of (N := ["changes", "found", "symbol", "orbit", "change"]) (vz := [some "changes", some "found", some "symbol", some "orbit", none]) (k := 0) (μ' := [.an, .fz, .fz, .fz, .fz]) Z.d_symbol_orbits 5 fun _ _ _ _ _ _ _ ok =>
    dss_cons (ds_asgN ok 1 rfl rfl (dn_lst (da_nil))) (dss_cons (ds_for ok (x_rg1 ok T.b_range (da_cons (x_len ok T.b_len (dos_cons (do_val (de_ix2 ok (do_var ok 0 rfl) (do_val (de_int)))) (dos_nil))) (da_nil))) (dg_name ok 2 rfl rfl) (dss_cons (ds_asg ok 3 rfl rfl (dn_de (x_sort3 ok T.b_sorted (dos_cons (do_val (x_sc ok [none, none, some "symbol", none, some "change"] [none, none, none, none, some "change"] [("change", 4)] (di_var ok 0 rfl (by decide)) (fun ok => ⟨dg_name ok 4 rfl rfl, dts_nil, de_ix2 ok (do_var ok 4 rfl) (do_var ok 2 rfl)⟩))) (dos_nil))))) (dss_one (ds_if (dt_cmp (o_eq ok) s_eq (do_val (de_ix2 ok (do_var ok 3 rfl) (do_val (de_int)))) (do_var ok 2 rfl) (nomark _)) (dss_one (ds_drop (x_app ok 1 rfl rfl (da_cons (x_tup ok T.b_tuple (dos_cons (do_var ok 3 rfl) (dos_nil))) (da_nil))))) (dss_nil))))) (dss_one (ds_ret rfl (x_tup ok T.b_tuple (dos_cons (do_var ok 1 rfl) (dos_nil))))))
theorem c_fault_of {g : G} (T : Txt g) (Z : Dfs g) : Cal g 1 "fault_of" [.an, .an] .fz m_fault_of :=
  cal_of (N := ["symbols", "change", "symbol"]) (vz := [some "symbols", some "change", none]) (k := 0) (μ' := [.an, .an, .fz]) Z.d_fault_of 3 fun _ _ _ _ _ _ _ ok =>
    dss_cons (ds_if (dt_cmp (o_ne ok) s_ne (do_val (x_len ok T.b_len (dos_cons (do_var ok 1 rfl) (dos_nil)))) (do_var ok 0 rfl) (nomark _)) (dss_one (ds_ret rfl (de_str))) (dss_nil)) (dss_cons (ds_if (dt_not (dt_val (fun _ _ => rfl) (x_all ok T.b_all (dos_cons (do_val (dn_de (x_lc ok [some "symbols", none, some "symbol"] [none, none, some "symbol"] [("symbol", 2)] (di_var ok 1 rfl (by decide)) (fun ok => ⟨dg_name ok 2 rfl rfl, dts_nil, de_chain ok (fun _ => op_le) s_le (fun _ => op_lt) s_lt (do_val (de_int)) (do_var ok 2 rfl) (do_var ok 0 rfl)⟩)))) (dos_nil))))) (dss_one (ds_ret rfl (de_str))) (dss_nil)) (dss_one (ds_ret rfl (de_if (dt_cmp (o_eq ok) s_eq (do_val (x_lenSet ok T.b_len T.b_set (do_var ok 1 rfl))) (do_var ok 0 rfl) (nomark _)) (de_non) (de_str)))))
theorem c_settled_changes {g : G} (T : Txt g) (Z : Dfs g) : Cal g 3 "settled_changes" [.an, .an] .fz m_settled_changes :=
  cal_of (N := ["symbols", "given", "number", "change", "reason"]) (vz := [some "symbols", some "given", some "number", some "change", some "reason"]) (k := 2) (μ' := [.an, .an, .fz, .fz, .fz]) Z.d_settled_changes 5 fun _ _ _ _ _ _ _ ok =>
    dss_cons (ds_if (dt_not (dt_chain ok (fun _ => op_le) s_le (fun _ => op_le) s_le (do_val (x_glob ok 2 T.c_LEAST_SYMBOLS)) (do_var ok 0 rfl) (do_val (x_glob ok 8 T.c_MOST_SYMBOLS)))) (dss_one (ds_raise ok (dm_init ok T.i_BadChanges (Nat.le_of_ble_eq_true rfl) (da_cons (de_non) (da_cons (de_str) (da_nil)))))) (dss_nil)) (dss_cons (ds_if (dt_cmp (fun _ => op_gt) s_gt (do_val (x_len ok T.b_len (dos_cons (do_var ok 1 rfl) (dos_nil)))) (do_val (x_glob ok 3 T.c_MOST_GIVEN)) (nomark _)) (dss_one (ds_raise ok (dm_init ok T.i_BadChanges (Nat.le_of_ble_eq_true rfl) (da_cons (de_non) (da_cons (de_str) (da_nil)))))) (dss_nil)) (dss_cons (ds_for ok (x_en ok T.b_enumerate 1 rfl (by decide)) (dg_tup ok (dgs_cons (dg_name ok 2 rfl rfl) (dgs_cons (dg_name ok 3 rfl rfl) (dgs_nil)))) (dss_cons (ds_asg ok 4 rfl rfl (x_call ok (c_fault_of T Z) (dos_cons (do_var ok 0 rfl) (dos_cons (do_var ok 3 rfl) (dos_nil))))) (dss_one (ds_if (dt_cmp (fun _ => op_notN) s_notN (do_var ok 4 rfl) (do_val (de_non)) (nomark _)) (dss_one (ds_raise ok (dm_init ok T.i_BadChanges (Nat.le_of_ble_eq_true rfl) (da_cons (de_var ok 2 rfl rfl) (da_cons (de_var ok 4 rfl rfl) (da_nil)))))) (dss_nil))))) (dss_one (ds_ret rfl (x_tup ok T.b_tuple (dos_cons (do_val (dn_de (x_lc ok [none, none, none, some "change", none] [none, none, none, some "change", none] [("change", 3)] (di_var ok 1 rfl (by decide)) (fun ok => ⟨dg_name ok 3 rfl rfl, dts_nil, x_tup ok T.b_tuple (dos_cons (do_var ok 3 rfl) (dos_nil))⟩)))) (dos_nil)))))))
theorem c_composed {g : G} (T : Txt g) (Z : Dfs g) : Cal g 1 "composed" [.an, .an] .fz m_composed :=
  cal_of (N := ["first", "second", "symbol"]) (vz := [some "first", some "second", none]) (k := 0) (μ' := [.an, .an, .fz]) Z.d_composed 3 fun _ _ _ _ _ _ _ ok =>
    dss_one (ds_ret rfl (x_tup ok T.b_tuple (dos_cons (do_val (dn_de (x_lc ok [none, some "second", some "symbol"] [none, none, some "symbol"] [("symbol", 2)] (di_var ok 0 rfl (by decide)) (fun ok => ⟨dg_name ok 2 rfl rfl, dts_nil, de_ix2 ok (do_var ok 1 rfl) (do_var ok 2 rfl)⟩)))) (dos_nil))))
theorem c_unmoved {g : G} (T : Txt g) (Z : Dfs g) : Cal g 1 "unmoved" [.fz] .fz m_unmoved :=
  cal_of (N := ["symbols"]) (vz := [some "symbols"]) (k := 0) (μ' := [.fz]) Z.d_unmoved 1 fun _ _ _ _ _ _ _ ok =>
    dss_one (ds_ret rfl (x_tupRg ok T.b_tuple T.b_range (de_var ok 0 rfl rfl)))
theorem c_ways {g : G} (T : Txt g) (Z : Dfs g) : Cal g 3 "ways" [.fz, .an] .fz m_ways :=
  cal_of (N := ["symbols", "given", "found", "waiting", "made", "number", "change", "longer"]) (vz := [some "symbols", some "given", some "found", some "waiting", some "made", some "number", some "change", some "longer"]) (k := 2) (μ' := [.fz, .an, .fz, .fz, .fz, .fz, .fz, .fz]) Z.d_ways 8 fun _ _ _ _ _ _ _ ok =>
    dss_cons (ds_asgN ok 2 rfl rfl (dn_disp ok (dps_cons (x_call ok (c_unmoved T Z) (dos_cons (do_var ok 0 rfl) (dos_nil))) (de_tup (da_nil)) (dps_nil)))) (dss_cons (ds_asgN ok 3 rfl rfl (dn_lst (da_cons (x_call ok (c_unmoved T Z) (dos_cons (do_var ok 0 rfl) (dos_nil))) (da_nil)))) (dss_cons (ds_while ok 30 (dt_tru ok (fun _ _ => rfl) (do_var ok 3 rfl)) (dss_cons (ds_asg ok 4 rfl rfl (x_pop ok 3 rfl rfl (da_cons (de_int) (da_nil)))) (dss_one (ds_for ok (x_en ok T.b_enumerate 1 rfl (by decide)) (dg_tup ok (dgs_cons (dg_name ok 5 rfl rfl) (dgs_cons (dg_name ok 6 rfl rfl) (dgs_nil)))) (dss_cons (ds_asg ok 7 rfl rfl (x_call ok (c_composed T Z) (dos_cons (do_var ok 4 rfl) (dos_cons (do_var ok 6 rfl) (dos_nil))))) (dss_one (ds_if (dt_cmp (o_notIn2 ok) s_notIn2 (do_var ok 7 rfl) (do_var ok 2 rfl) (by with_unfolding_all rfl)) (dss_cons (ds_if (dt_cmp (o_eq ok) s_eq (do_val (x_len ok T.b_len (dos_cons (do_var ok 2 rfl) (dos_nil)))) (do_val (x_glob ok 24 T.c_MOST_CHANGES)) (nomark _)) (dss_one (ds_raise ok (dm_init ok T.i_BadChanges (Nat.le_of_ble_eq_true rfl) (da_cons (de_non) (da_cons (de_str) (da_nil)))))) (dss_nil)) (dss_cons (ds_store2 ok 2 rfl rfl (de_bin (o_add ok) s_add (do_val (de_ix2 ok (do_var ok 2 rfl) (do_var ok 4 rfl))) (do_val (de_tup (da_cons (de_var ok 5 rfl rfl) (da_nil))))) (de_var ok 7 rfl rfl)) (dss_one (ds_drop (x_app ok 3 rfl rfl (da_cons (de_var ok 7 rfl rfl) (da_nil))))))) (dss_nil)))))))) (dss_one (ds_fz 2 rfl (ds_ret rfl (de_var ok 2 rfl rfl))))))
theorem c_way_to {g : G} (T : Txt g) (Z : Dfs g) : Cal g 4 "way_to" [.fz, .an, .an] .fz m_way_to :=
  cal_of (N := ["symbols", "given", "change"]) (vz := [some "symbols", some "given", some "change"]) (k := 3) (μ' := [.fz, .an, .an]) Z.d_way_to 3 fun _ _ _ _ _ _ _ ok =>
    dss_one (ds_ret rfl (x_get ok (do_val (x_call ok (c_ways T Z) (dos_cons (do_var ok 0 rfl) (dos_cons (do_val (x_call ok (c_settled_changes T Z) (dos_cons (do_var ok 0 rfl) (dos_cons (do_var ok 1 rfl) (dos_nil))))) (dos_nil))))) (da_cons (x_tup ok T.b_tuple (dos_cons (do_var ok 2 rfl) (dos_nil))) (da_nil))))
theorem c_law {g : G} (T : Txt g) (Z : Dfs g) {a : Addr} {fd : FuncData} (F : Fun g.K "law" "law" s_law a fd) : FnOk g.P g.w g.K g.mg g.base (L2.CX g.P g.w) 10 a fd ["script"] (spOf g [.an] .fz m_law) :=
  fnok_of (N := ["script", "pool", "symbols", "given", "due", "change", "told", "free", "odd", "changes", "orbits", "symbol", "kept", "orbit"]) (vz := [some "script", some "pool", some "symbols", some "given", some "due", some "change", some "told", some "free", some "odd", some "changes", some "orbits", some "symbol", some "kept", none]) (k := 9) (μ' := [.an, .fz, .fz, .fz, .fz, .fz, .fz, .fz, .fz, .fz, .fz, .fz, .fz, .fz]) F 14 fun _ _ _ _ _ _ ok =>
    dss_cons (ds_asgN ok 1 rfl rfl (x_callN ok (c_law_pool T Z) (dos_cons (do_var ok 0 rfl) (dos_nil)))) (dss_cons (ds_asg ok 2 rfl rfl (de_bin (o_add ok) s_add (do_val (de_int)) (do_val (x_call ok (c_law_take T Z 3) (dos_cons (do_var ok 1 rfl) (dos_cons (do_val (de_int)) (dos_nil))))))) (dss_cons (ds_asg ok 3 rfl rfl (x_call ok (c_law_given T Z) (dos_cons (do_var ok 1 rfl) (dos_cons (do_var ok 2 rfl) (dos_nil))))) (dss_cons (ds_if (dt_w (dw_and (dt_tru ok (fun _ _ => rfl) (do_var ok 3 rfl)) (dw_and (dt_cmp (fun _ => op_lt) s_lt (do_val (x_len ok T.b_len (dos_cons (do_var ok 3 rfl) (dos_nil)))) (do_val (de_int)) (nomark _)) (dw_and1 (dt_cmp (o_eq ok) s_eq (do_val (x_call ok (c_law_take T Z 3) (dos_cons (do_var ok 1 rfl) (dos_cons (do_val (de_int)) (dos_nil))))) (do_val (de_int)) (nomark _)))))) (dss_one (ds_asg ok 3 rfl rfl (de_bin (o_add ok) s_add (do_val (dn_de (dn_lst (da_cons (x_call ok (c_law_pick T Z) (dos_cons (do_var ok 1 rfl) (dos_cons (do_var ok 3 rfl) (dos_nil)))) (da_nil))))) (do_var ok 3 rfl)))) (dss_nil)) (dss_cons (ds_asg ok 4 rfl rfl (x_call ok (c_law_ways T Z) (dos_cons (do_var ok 2 rfl) (dos_cons (do_var ok 3 rfl) (dos_nil))))) (dss_cons (ds_for ok (di_val ok (dn_de (x_sort ok T.b_sorted (dos_cons (do_var ok 4 rfl) (dos_nil))))) (dg_name ok 5 rfl rfl) (dss_cons (ds_asg ok 6 rfl rfl (x_call ok (c_way_to T Z) (dos_cons (do_var ok 2 rfl) (dos_cons (do_val (x_call ok (c_law_shaped T Z 4) (dos_cons (do_var ok 1 rfl) (dos_cons (do_var ok 3 rfl) (dos_nil))))) (dos_cons (do_val (x_call ok (c_law_shaped T Z 4) (dos_cons (do_var ok 1 rfl) (dos_cons (do_var ok 5 rfl) (dos_nil))))) (dos_nil)))))) (dss_one (ds_if (dt_not (dt_tru ok (fun _ _ => rfl) (do_val (x_call ok (c_law_same T Z 6) (dos_cons (do_var ok 6 rfl) (dos_cons (do_val (de_ix2 ok (do_var ok 4 rfl) (do_var ok 5 rfl))) (dos_nil))))))) (dss_one (ds_ret rfl (de_bl))) (dss_nil))))) (dss_cons (ds_asg ok 7 rfl rfl (x_tup ok T.b_tuple (dos_cons (do_val (x_call ok (c_law_some T Z) (dos_cons (do_var ok 1 rfl) (dos_cons (do_val (dn_de (x_lstRg ok T.b_list T.b_range (de_var ok 2 rfl rfl)))) (dos_cons (do_var ok 2 rfl) (dos_nil)))))) (dos_nil)))) (dss_cons (ds_if (dt_not (dt_tru ok (fun _ _ => rfl) (do_val (x_call ok (c_law_same T Z 6) (dos_cons (do_val (x_call ok (c_way_to T Z) (dos_cons (do_var ok 2 rfl) (dos_cons (do_var ok 3 rfl) (dos_cons (do_var ok 7 rfl) (dos_nil)))))) (dos_cons (do_val (x_get ok (do_var ok 4 rfl) (da_cons (de_var ok 7 rfl rfl) (da_cons (de_non) (da_nil))))) (dos_nil))))))) (dss_one (ds_ret rfl (de_bl))) (dss_nil)) (dss_cons (ds_for ok (di_val ok (de_tup (da_cons (de_tup (da_nil)) (da_cons (de_tup (da_cons (de_int) (da_nil))) (da_cons (de_bin (o_mul2 ok) s_mul2 (do_val (de_tup (da_cons (de_int) (da_nil)))) (do_var ok 2 rfl)) (da_cons (x_tupRg2 ok T.b_tuple T.b_range (de_int) (de_bin (o_add ok) s_add (do_var ok 2 rfl) (do_val (de_int)))) (da_cons (de_bin (o_add ok) s_add (do_val (x_tupRg ok T.b_tuple T.b_range (de_var ok 2 rfl rfl))) (do_val (de_tup (da_cons (de_int) (da_nil))))) (da_cons (de_bin (o_add ok) s_add (do_val (de_tup (da_cons (de_neg (de_int)) (da_nil)))) (do_val (de_slice ok (do_var ok 7 rfl) (dp_some (de_int)) (dp_none)))) (da_nil))))))))) (dg_name ok 8 rfl rfl) (dss_one (ds_if (dt_cmp (fun _ => op_notN) s_notN (do_val (x_call ok (c_way_to T Z) (dos_cons (do_var ok 2 rfl) (dos_cons (do_var ok 3 rfl) (dos_cons (do_val (x_call ok (c_law_shaped T Z 4) (dos_cons (do_var ok 1 rfl) (dos_cons (do_var ok 8 rfl) (dos_nil))))) (dos_nil)))))) (do_val (de_non)) (nomark _)) (dss_one (ds_ret rfl (de_bl))) (dss_nil)))) (dss_cons (ds_asg ok 9 rfl rfl (x_tup ok T.b_tuple (dos_cons (do_val (dn_de (x_sort ok T.b_sorted (dos_cons (do_var ok 4 rfl) (dos_nil))))) (dos_nil)))) (dss_cons (ds_asg ok 10 rfl rfl (x_tup ok T.b_tuple (dos_cons (do_val (dn_de (x_lc ok [none, none, none, none, none, none, none, none, none, none, none, none, none, some "orbit"] [none, none, none, none, none, none, none, none, none, none, none, none, none, some "orbit"] [("orbit", 13)] (di_val ok (x_call ok (c_law_symbol_orbits T Z) (dos_cons (do_var ok 2 rfl) (dos_cons (do_var ok 9 rfl) (dos_nil))))) (fun ok => ⟨dg_name ok 13 rfl rfl, dts_nil, x_tup ok T.b_tuple (dos_cons (do_var ok 13 rfl) (dos_nil))⟩)))) (dos_nil)))) (dss_cons (ds_if (dt_not (dt_tru ok (fun _ _ => rfl) (do_val (x_call ok (c_law_same T Z 6) (dos_cons (do_val (x_call ok (c_symbol_orbits T Z) (dos_cons (do_val (x_call ok (c_law_shaped T Z 4) (dos_cons (do_var ok 1 rfl) (dos_cons (do_var ok 9 rfl) (dos_nil))))) (dos_nil)))) (dos_cons (do_var ok 10 rfl) (dos_nil))))))) (dss_one (ds_ret rfl (de_bl))) (dss_nil)) (dss_cons (ds_for ok (x_rg1 ok T.b_range (da_cons (de_var ok 2 rfl rfl) (da_nil))) (dg_name ok 11 rfl rfl) (dss_cons (ds_asg ok 12 rfl rfl (x_tup ok T.b_tuple (dos_cons (do_val (dn_de (x_lc ok [none, none, none, none, none, some "change", none, none, none, none, none, some "symbol", none, none] [none, none, none, none, none, some "change", none, none, none, none, none, none, none, none] [("change", 5)] (di_var ok 9 rfl (by decide)) (fun ok => ⟨dg_name ok 5 rfl rfl, dts_one (dt_cmp (o_eq ok) s_eq (do_val (de_ix2 ok (do_var ok 5 rfl) (do_var ok 11 rfl))) (do_var ok 11 rfl) (nomark _)), de_var ok 5 rfl rfl⟩)))) (dos_nil)))) (dss_one (ds_if (dt_not (dt_tru ok (fun _ _ => rfl) (do_val (x_call ok (c_law_same T Z 6) (dos_cons (do_val (x_call ok (c_kept_by T Z) (dos_cons (do_val (x_call ok (c_law_shaped T Z 4) (dos_cons (do_var ok 1 rfl) (dos_cons (do_var ok 9 rfl) (dos_nil))))) (dos_cons (do_var ok 11 rfl) (dos_nil))))) (dos_cons (do_var ok 12 rfl) (dos_nil))))))) (dss_one (ds_ret rfl (de_bl))) (dss_nil))))) (dss_one (ds_ret rfl (de_and (x_call ok (c_law_is_none T Z) (dos_cons (do_var ok 9 rfl) (dos_cons (do_val (de_neg (de_int))) (dos_nil)))) (de_one (x_call ok (c_law_is_none T Z) (dos_cons (do_var ok 9 rfl) (dos_cons (do_val (de_bin (o_add ok) s_add (do_var ok 2 rfl) (do_val (x_call ok (c_law_take T Z 3) (dos_cons (do_var ok 1 rfl) (dos_cons (do_val (de_int)) (dos_nil))))))) (dos_nil))))))))))))))))))))
end PyD

set_option Elab.async false
set_option linter.all false
set_option maxRecDepth 100000
set_option maxHeartbeats 1000000
namespace PyD
open PySem
/-- the draws -/
def Pool (d : D) : Prop := ∃ (ns : List Int) (p q h : Int), d = .lst [.lst (ns.map .int), .int p, .int q, .int h] ∧ 0 ≤ p ∧ (∀ n ∈ ns, 0 ≤ n) ∧ 0 ≤ q ∧ 0 ≤ h ∧ h < 2147483647
abbrev no : Exc → Prop := fun _ => False
/-- a draw below m -/
def Took (m : Int) (r : D × List D) : Prop := ∃ (x : Nat) (p : D), r = (.int (x : Int), [p]) ∧ (x : Int) < m ∧ Pool p
theorem fmod_nat {a m : Int} (hm : 0 < m) : ∃ x : Nat, a.fmod m = x ∧ (x : Int) < m := by
  have h1 := Int.fmod_nonneg_of_pos a hm
  have h2 := Int.fmod_lt_of_pos a hm
  exact ⟨(a.fmod m).toNat, by omega, by omega⟩
theorem fdiv_nn {a b : Int} (ha : 0 ≤ a) (hb : 0 < b) : 0 ≤ a.fdiv b := by
  rw [Int.fdiv_eq_ediv_of_nonneg _ (by omega)]
  exact Int.ediv_nonneg ha (by omega)
theorem mulOkR {a b : Int} (h : -(2 ^ 64) < b ∧ b < 2 ^ 64) : mulOk a b = true := by
  unfold mulOk
  rw [decide_eq_true h.1, decide_eq_true h.2]
  simp
theorem take1 (self : List D → Out (D × List D)) {ns : List Int} {p q h m : Int} (hp : 0 ≤ p) (hns : ∀ n ∈ ns, 0 ≤ n) (h0 : 0 ≤ h) (h1 : h < 2147483647) (hm : 0 < m) (hm2 : m < 1073741824) (hq : 0 < q) :
    (M.fn [.ow, .an] .fz 5 (b_law_take self) [.lst [.lst (ns.map .int), .int p, .int q, .int h], .int m]).wp (Took m) no := by
  have e1 : ¬ m = 0 := by omega
  have e2 : m.natAbs < 1073741824 := by omega
  simp [b_law_take, hq, e1, e2, ioOf, ioFrom]
  obtain ⟨x, hx, hx2⟩ := fmod_nat (a := q) hm
  exact ⟨x, _, by rw [hx], hx2, ns, p, _, h, rfl, hp, hns, fdiv_nn (by omega) hm, h0, h1⟩
theorem take_fin {ns : List Int} {p e m : Int} (hp : 0 ≤ p) (hns : ∀ n ∈ ns, 0 ≤ n) (hm : 0 < m) (E : Int) : Took m (.int (E.fmod m), [.lst [.lst (ns.map .int), .int p, .int 0, .int (e.fmod 2147483647)]]) := by
  obtain ⟨x, hx, hx2⟩ := fmod_nat (a := E) hm
  obtain ⟨y, hy, hy2⟩ := fmod_nat (a := e) (m := 2147483647) (by omega)
  exact ⟨x, _, by rw [hx], hx2, ns, p, 0, _, rfl, hp, hns, Int.le_refl _, by rw [hy]; omega, by rw [hy]; exact hy2⟩
theorem mulOkL {a b : Int} (h : -(2 ^ 64) < a ∧ a < 2 ^ 64) : mulOk a b = true := by
  unfold mulOk
  rw [decide_eq_true h.1, decide_eq_true h.2]
  simp
theorem take2 (self : List D → Out (D × List D)) {ns : List Int} {p h m : Int} (hp : 0 ≤ p) (hns : ∀ n ∈ ns, 0 ≤ n) (h0 : 0 ≤ h) (h1 : h < 2147483647) (hm : 0 < m) (hm2 : m < 1073741824)
    (hs : ∀ (p q h : Int), 0 ≤ p → 0 < q → 0 ≤ h → h < 2147483647 → (self [.lst [.lst (ns.map .int), .int p, .int q, .int h], .int m]).wp (Took m) no) :
    (M.fn [.ow, .an] .fz 5 (b_law_take self) [.lst [.lst (ns.map .int), .int p, .int 0, .int h], .int m]).wp (Took m) no := by
  have e1 : ¬ m = 0 := by omega
  have mf : ∀ e : Int, mulOk (e.fmod 2147483647) (e.fmod 2147483647) = true := fun e => by
    obtain ⟨y, hy, hy2⟩ := fmod_nat (a := e) (m := 2147483647) (by omega)
    exact mulOkL (by rw [hy]; omega)
  by_cases hl : p < (ns.length : Int)
  · obtain ⟨i, rfl⟩ : ∃ i : Nat, p = i := ⟨p.toNat, by omega⟩
    have hi : i < ns.length := by omega
    have hix : (ns.map D.int)[i]? = some (.int ns[i]) := by simp [hi]
    have hc := hns _ (List.getElem_mem hi)
    simp [b_law_take, hl, p_ixL hix, chk, chkA, owIdx, md, ioOf, ioFrom, e1]
    split
    · rename_i hb
      have hd : 0 < (ns[i]).fdiv 2 := by
        rw [Int.fdiv_eq_ediv_of_nonneg _ (by omega)]; omega
      refine Out.wp.imp (hs _ _ _ (by omega) hd h0 h1) fun r hr => ?_
      obtain ⟨x, p', rfl, hx, hP⟩ := hr
      simp
      exact ⟨x, p', rfl, hx, hP⟩
    · exact ⟨mulOkR (by omega), mulOkR (by omega), mulOkR (by omega), mf _, mulOkR (by omega), take_fin (by omega) hns hm _⟩
  · simp [b_law_take, hl, chk, chkA, owIdx, md, ioOf, ioFrom, e1]
    exact ⟨mulOkR (by omega), mulOkR (by omega), mulOkR (by omega), mf _, mulOkR (by omega), take_fin (by omega) hns hm _⟩
theorem take_spec {d : D} {m : Int} (hd : Pool d) (hm : 0 < m) (hm2 : m < 1073741824) : (m_law_take 3 [d, .int m]).wp (Took m) no := by
  obtain ⟨ns, p, q, h, rfl, hp, hns, hq, h0, h1⟩ := hd
  unfold m_law_take
  by_cases hz : 0 < q
  · exact take1 _ hp hns h0 h1 hm hm2 hz
  · have : q = 0 := by omega
    subst this
    refine take2 _ hp hns h0 h1 hm hm2 fun p q h hp hq h0 h1 => ?_
    unfold m_law_take
    exact take1 _ hp hns h0 h1 hm hm2 hq
def cmp (a b : List Int) : List Int := a.map fun x => b.getD x.toNat 0
def idn (n : Nat) : List Int := (List.range n).map fun (i : Nat) => (i : Int)
def Row (n : Nat) (r : List Int) : Prop := ∀ x ∈ r, 0 ≤ x ∧ x < (n : Int)
structure Pm (n : Nat) (r : List Int) : Prop where
  len : r.length = n
  row : Row n r
  nd : r.Nodup
theorem cmp_len (a b : List Int) : (cmp a b).length = a.length := by unfold cmp; simp
theorem idn_len (n : Nat) : (idn n).length = n := by unfold idn; simp
theorem idn_get {n i : Nat} (h : i < n) : (idn n).getD i 0 = i := by unfold idn; simp [h]
theorem Row.nat {n : Nat} {r : List Int} (h : Row n r) {x : Int} (hx : x ∈ r) : ∃ i : Nat, x = i ∧ i < n := by
  obtain ⟨a, b⟩ := h x hx
  exact ⟨x.toNat, by omega, by omega⟩
theorem getD_mem {b : List Int} {i : Nat} (h : i < b.length) : b.getD i 0 ∈ b := by
  rw [List.getD_eq_getElem?_getD, List.getElem?_eq_getElem h]
  exact List.getElem_mem h
theorem getD_inj {b : List Int} (nd : b.Nodup) {i j : Nat} (hi : i < b.length) (hj : j < b.length) (e : b.getD i 0 = b.getD j 0) : i = j := by
  rw [List.getD_eq_getElem?_getD, List.getElem?_eq_getElem hi, List.getD_eq_getElem?_getD, List.getElem?_eq_getElem hj] at e
  exact (List.getElem_inj nd).mp e
theorem idn_pm (n : Nat) : Pm n (idn n) := by
  refine ⟨idn_len n, fun x hx => ?_, ?_⟩
  · obtain ⟨i, hi, rfl⟩ := List.mem_map.mp hx
    have := List.mem_range.mp hi
    omega
  · unfold idn
    rw [List.nodup_iff_pairwise_ne, List.pairwise_map]
    exact List.Pairwise.imp (fun h e => h (by omega)) (List.nodup_iff_pairwise_ne.mp List.nodup_range)
theorem map_nodup {α : Type} {f : α → Int} : ∀ {l : List α}, l.Nodup → (∀ x ∈ l, ∀ y ∈ l, f x = f y → x = y) → (l.map f).Nodup
  | [], _, _ => List.nodup_nil
  | x :: l, h, inj => by
    have h' := List.nodup_cons.mp h
    rw [List.map_cons, List.nodup_cons]
    refine ⟨fun hm => ?_, map_nodup h'.2 fun a ha b hb => inj a (List.mem_cons_of_mem _ ha) b (List.mem_cons_of_mem _ hb)⟩
    obtain ⟨y, hy, e⟩ := List.mem_map.mp hm
    have := inj y (List.mem_cons_of_mem _ hy) x List.mem_cons_self e
    exact h'.1 (this ▸ hy)
theorem cmp_pm {n : Nat} {a b : List Int} (ha : Pm n a) (hb : Pm n b) : Pm n (cmp a b) := by
  refine ⟨by rw [cmp_len, ha.len], fun x hx => ?_, ?_⟩
  · unfold cmp at hx
    obtain ⟨y, hy, rfl⟩ := List.mem_map.mp hx
    obtain ⟨i, rfl, hi⟩ := ha.row.nat hy
    exact hb.row _ (getD_mem (by rw [hb.len]; simpa using hi))
  · refine map_nodup ha.nd fun x hx y hy e => ?_
    obtain ⟨i, rfl, hi⟩ := ha.row.nat hx
    obtain ⟨j, rfl, hj⟩ := ha.row.nat hy
    rw [getD_inj hb.nd (by rw [hb.len]; simpa using hi) (by rw [hb.len]; simpa using hj) e |> fun q : (i : Int).toNat = (j : Int).toNat => (by simpa using q : i = j)]
theorem cmp_id {n : Nat} {a : List Int} (ha : Row n a) : cmp a (idn n) = a := by
  unfold cmp
  rw [List.map_congr_left (g := id) fun x hx => ?_, List.map_id]
  obtain ⟨i, rfl, hi⟩ := ha.nat hx
  rw [Int.toNat_natCast, idn_get hi]; rfl
theorem id_cmp {n : Nat} {b : List Int} (hb : b.length = n) : cmp (idn n) b = b := by
  unfold cmp idn
  rw [List.map_map]
  refine List.ext_getElem (by simp [hb]) fun i h1 h2 => ?_
  simp [List.getD_eq_getElem?_getD, h2]
theorem cmp_get {a b : List Int} {i : Nat} (h : i < a.length) : (cmp a b).getD i 0 = b.getD (a.getD i 0).toNat 0 := by
  unfold cmp
  simp [List.getD_eq_getElem?_getD, h]
theorem cmp_assoc {n : Nat} {a b c : List Int} (ha : Row n a) (hb : b.length = n) : cmp (cmp a b) c = cmp a (cmp b c) := by
  show (a.map fun x => b.getD x.toNat 0).map (fun x => c.getD x.toNat 0) = a.map fun x => (cmp b c).getD x.toNat 0
  rw [List.map_map]
  refine List.map_congr_left fun x hx => ?_
  obtain ⟨i, rfl, hi⟩ := ha.nat hx
  show c.getD (b.getD (i : Int).toNat 0).toNat 0 = _
  rw [Int.toNat_natCast, cmp_get (by omega)]
theorem ext_getD {a b : List Int} (hl : a.length = b.length) (h : ∀ i, i < a.length → a.getD i 0 = b.getD i 0) : a = b := by
  refine List.ext_getElem hl fun i h1 h2 => ?_
  have := h i h1
  rw [List.getD_eq_getElem?_getD, List.getElem?_eq_getElem h1, List.getD_eq_getElem?_getD, List.getElem?_eq_getElem h2] at this
  exact this
theorem getD_idx {row : List Int} {x : Int} (h : x ∈ row) : row.getD (row.idxOf x) 0 = x := by
  have hx := List.idxOf_lt_length_of_mem h
  rw [List.getD_eq_getElem?_getD, List.getElem?_eq_getElem hx]
  simp
theorem idx_getD {row : List Int} (nd : row.Nodup) {j : Nat} (hj : j < row.length) : row.idxOf (row.getD j 0) = j :=
  getD_inj nd (List.idxOf_lt_length_of_mem (getD_mem hj)) hj (getD_idx (getD_mem hj))
theorem nodup_le {α : Type} [DecidableEq α] : ∀ {l m : List α}, l.Nodup → (∀ x ∈ l, x ∈ m) → l.length ≤ m.length
  | [], _, _, _ => Nat.zero_le _
  | x :: l, m, h, k => by
    have h' := List.nodup_cons.mp h
    have hx := k x List.mem_cons_self
    have := nodup_le (m := m.erase x) h'.2 fun y hy => (List.mem_erase_of_ne (fun e : y = x => h'.1 (e ▸ hy))).mpr (k y (List.mem_cons_of_mem _ hy))
    rw [List.length_erase_of_mem hx] at this
    have := List.length_pos_of_mem hx
    rw [List.length_cons]; omega
theorem perm_of_nodup {α : Type} [DecidableEq α] {l m : List α} (hl : l.Nodup) (hm : m.Nodup) (h : ∀ x, x ∈ l ↔ x ∈ m) : l.Perm m := by
  rw [List.perm_ext_iff_of_nodup hl hm]; exact h
/-- a permutation hits each place -/
theorem Pm.all {n : Nat} {r : List Int} (h : Pm n r) {i : Nat} (hi : i < n) : (i : Int) ∈ r := by
  apply Classical.byContradiction
  intro hn
  have h1 : ((i : Int) :: r).Nodup := List.nodup_cons.mpr ⟨hn, h.nd⟩
  have := nodup_le (m := idn n) h1 fun x hx => by
    have : ∃ j : Nat, x = j ∧ j < n := by
      rcases List.mem_cons.mp hx with rfl | hx
      · exact ⟨i, rfl, hi⟩
      · exact h.row.nat hx
    obtain ⟨j, rfl, hj⟩ := this
    exact List.mem_map.mpr ⟨j, List.mem_range.mpr hj, rfl⟩
  rw [List.length_cons, idn_len, h.len] at this
  omega
inductive Reach (n : Nat) (gs : List (List Int)) : List Int → Prop
  | one : Reach n gs (idn n)
  | mul {f g : List Int} : Reach n gs f → g ∈ gs → Reach n gs (cmp f g)
def Good (n : Nat) (gs : List (List Int)) : Prop := ∃ F : List (List Int), F.length ≤ 24 ∧ ∀ f, Reach n gs f → f ∈ F
theorem Reach.pm {n : Nat} {gs : List (List Int)} (h : ∀ g ∈ gs, Pm n g) {f : List Int} (r : Reach n gs f) : Pm n f := by
  induction r with
  | one => exact idn_pm n
  | mul _ hg ih => exact cmp_pm ih (h _ hg)
theorem Reach.mono {n : Nat} {gs hs : List (List Int)} (h : ∀ g ∈ gs, g ∈ hs) {f : List Int} (r : Reach n gs f) : Reach n hs f := by
  induction r with
  | one => exact .one
  | mul _ hg ih => exact .mul ih (h _ hg)
theorem Reach.drop {n : Nat} {gs hs : List (List Int)} (hp : ∀ g ∈ gs, Pm n g) (h : ∀ g ∈ hs, g ∈ gs ∨ g = idn n) {f : List Int} (r : Reach n hs f) : Reach n gs f := by
  induction r with
  | one => exact .one
  | mul _ hg ih =>
    rcases h _ hg with q | rfl
    · exact .mul ih q
    · rw [cmp_id (ih.pm hp).row]; exact ih
theorem Good.of {n : Nat} {gs hs : List (List Int)} (hp : ∀ g ∈ gs, Pm n g) (h : ∀ g ∈ hs, g ∈ gs ∨ g = idn n) (k : Good n gs) : Good n hs := by
  obtain ⟨F, h1, h2⟩ := k
  exact ⟨F, h1, fun f r => h2 f (r.drop hp h)⟩
theorem Good.nil (n : Nat) : Good n [] := ⟨[idn n], by simp, fun f r => by
  cases r with
  | one => simp
  | mul _ h => cases h⟩
/-- permutations of a row's places, carried over -/
def ext (n : Nat) (row : List Int) (s : List Int) : List Int := (idn n).map fun x => if x ∈ row then row.getD (s.getD (row.idxOf x) 0).toNat 0 else x
theorem Good.rows {n : Nat} {row : List Int} (hr : Row n row) (nd : row.Nodup) {L ts : List (List Int)} (hl : L.length ≤ 24) (h1 : idn row.length ∈ L) (hp : ∀ s ∈ L, Pm row.length s) (ht : ∀ t ∈ ts, Pm row.length t) (hc : ∀ s ∈ L, ∀ t ∈ ts, cmp s t ∈ L) : Good n (ts.map (ext n row)) := by
  refine ⟨L.map (ext n row), by rw [List.length_map]; exact hl, fun f r => ?_⟩
  have hget : ∀ (s : List Int) (i : Nat), i < n → (ext n row s).getD i 0 = if (i : Int) ∈ row then row.getD (s.getD (row.idxOf (i : Int)) 0).toNat 0 else (i : Int) := fun s i hi => by
    unfold PyD.ext idn
    simp [List.getD_eq_getElem?_getD, hi]
  have hlen : ∀ s, (ext n row s).length = n := fun s => by unfold PyD.ext; simp [idn_len]
  induction r with
  | one =>
    refine List.mem_map.mpr ⟨_, h1, ?_⟩
    refine ext_getD (by rw [hlen, idn_len]) fun i hi => ?_
    rw [hlen] at hi
    rw [hget _ _ hi, idn_get hi]
    split
    · rename_i hm
      have hx := List.idxOf_lt_length_of_mem hm
      rw [idn_get hx, Int.toNat_natCast, List.getD_eq_getElem?_getD, List.getElem?_eq_getElem hx]
      simp
    · rfl
  | mul _ hg ih =>
    obtain ⟨s, hs, rfl⟩ := List.mem_map.mp ih
    obtain ⟨t, htm, rfl⟩ := List.mem_map.mp hg
    refine List.mem_map.mpr ⟨cmp s t, hc s hs t htm, ?_⟩
    have ps := hp s hs
    have pt := ht t htm
    refine ext_getD (by rw [hlen, cmp_len, hlen]) fun i hi => ?_
    rw [hlen] at hi
    rw [hget (cmp s t) i hi, cmp_get (a := ext n row s) (b := ext n row t) (by rw [hlen]; exact hi), hget s i hi]
    split
    · rename_i hm
      have hx := List.idxOf_lt_length_of_mem hm
      obtain ⟨j, ej, hj⟩ := ps.row.nat (getD_mem (by rw [ps.len]; exact hx))
      rw [cmp_get (a := s) (b := t) (by rw [ps.len]; exact hx), ej, Int.toNat_natCast]
      obtain ⟨y, ey, hy⟩ := hr.nat (getD_mem hj)
      rw [ey, Int.toNat_natCast, hget _ _ hy, ← ey, if_pos (getD_mem hj)]
      have := idx_getD nd hj
      rw [this]
    · rename_i hm
      rw [Int.toNat_natCast, hget _ _ hi, if_neg hm]
/-- a comprehension whose items do not touch the names: its list -/
theorem lc_pure {me : Env → Out (D × Env)} {i : Nat} {P : List D × Env → Prop} {X : Exc → Prop} {ρ0 : Env} (f : D → D) (hw : ∀ d, M.wipeE (ρ0.set i (some d)) [i] = ρ0) {ds : List D} (h : ∀ d ∈ ds, (me (ρ0.set i (some d))).wp (fun q => q = (f d, ρ0.set i (some d))) no)
    (hl : ds.length ≤ 100000) (k : P (ds.map f, ρ0)) : (M.lcAux (M.gn i) M.yes me [i] ds [] ρ0).wp P X := by
  refine lcAux_wp (I := fun rest acc ρ => ρ = ρ0 ∧ ∃ pre, ds = pre ++ rest ∧ acc = pre.map f) (fun d rest acc ρ hI => ?_) (fun acc ρ hI => ?_) ds [] ρ0 ⟨rfl, [], rfl, rfl⟩
  · obtain ⟨rfl, pre, rfl, rfl⟩ := hI
    simp only [w_gn, w_yes, if_true]
    refine Out.wp.imp (h d (by simp)) fun q hq => ?_
    subst hq
    refine ⟨?_, hw d, pre ++ [d], by simp, by simp⟩
    rw [List.length_append, List.length_cons] at hl
    rw [List.length_map]; omega
  · obtain ⟨rfl, pre, rfl, rfl⟩ := hI
    simpa using k
end PyD

set_option Elab.async false
set_option linter.all false
set_option maxRecDepth 100000
set_option maxHeartbeats 1000000
namespace PyD
open PySem
theorem pool_spec (ns : List Int) (hl : ns.length ≤ 63) : (m_law_pool [.scr ns]).wp (fun r => ∃ p, r = (p, []) ∧ Pool p) no := by
  simp [m_law_pool, b_law_pool]
  have key : ∀ d ∈ ns.map D.int, ((M.ite (M.bool (M.op2 geO (M.ovar 1) (M.oval (M.cst (.int 0))))) (M.op2 mulO (M.oval (M.cst (.int 2))) (M.ovar 1)) (M.op2 subO (M.oval (M.op2 mulO (M.oval (M.map negO (M.cst (.int 2)))) (M.ovar 1))) (M.oval (M.cst (.int 1))))) ([some (.scr ns), none].set 1 (some d))).wp
      (fun q => q = ((match d with | .int n => D.int (if 0 ≤ n then 2 * n else -2 * n - 1) | d => d), [some (.scr ns), none].set 1 (some d))) no := by
    intro d hd
    obtain ⟨n, _, rfl⟩ := List.mem_map.mp hd
    by_cases h : 0 ≤ n
    · simp [h, mulOkL]
    · simp [h, mulOkL]
  refine lc_pure (fun d => match d with | .int n => D.int (if 0 ≤ n then 2 * n else -2 * n - 1) | d => d) (fun d => rfl) key (by simp; omega) ?_
  simp [ioOf, ioFrom]
  refine ⟨ns.map fun n => if 0 ≤ n then 2 * n else -2 * n - 1, 0, 0, 17, by simp, by omega, fun n hn => ?_, by omega, by omega, by omega⟩
  obtain ⟨m, _, rfl⟩ := List.mem_map.mp hn
  split <;> omega
theorem pick_spec {p : D} {ds : List D} (hp : Pool p) (h0 : 0 < ds.length) (h1 : ds.length < 1073741824) {rows : D} (hr : rows = .lst ds ∨ rows = .tup ds) : (m_law_pick [p, rows]).wp (fun r => ∃ d p', d ∈ ds ∧ r = (d, [p']) ∧ Pool p') no := by
  rcases hr with rfl | rfl
  · simp [m_law_pick, b_law_pick, chk, chkA, owIdx, md, ioOf, ioFrom]
    refine Out.wp.imp (take_spec hp (by omega) (by omega)) fun r hr => ?_
    obtain ⟨x, p', rfl, hx, hP⟩ := hr
    have hx' : x < ds.length := by omega
    simp [p_ixL (List.getElem?_eq_getElem hx')]
    exact ⟨_, List.getElem_mem hx', p', ⟨rfl, rfl⟩, hP⟩
  · simp [m_law_pick, b_law_pick, chk, chkA, owIdx, md, ioOf, ioFrom]
    refine Out.wp.imp (take_spec hp (by omega) (by omega)) fun r hr => ?_
    obtain ⟨x, p', rfl, hx, hP⟩ := hr
    have hx' : x < ds.length := by omega
    simp [p_ixT (List.getElem?_eq_getElem hx')]
    exact ⟨_, List.getElem_mem hx', p', ⟨rfl, rfl⟩, hP⟩
theorem perm_eraseIdx {α : Type} : ∀ {l : List α} {x : Nat} (h : x < l.length), (l[x] :: l.eraseIdx x).Perm l
  | [], _, h => absurd h (Nat.not_lt_zero _)
  | a :: l, 0, _ => List.Perm.refl _
  | a :: l, x + 1, h => (List.Perm.swap _ _ _).trans ((perm_eraseIdx (l := l) (by simpa using h)).cons a)
/-- some items, each once, in any order -/
theorem some_spec {p : D} {ds : List D} (hp : Pool p) (h1 : ds.length < 100000) {rows : D} (hr : rows = .lst ds ∨ rows = .tup ds) (k : Nat) (hk : k < 100000) :
    (m_law_some [p, rows, .int (k : Int)]).wp (fun r => ∃ es rest p', r = (.lst es, [p']) ∧ Pool p' ∧ (es ++ rest).Perm ds ∧ es.length = min k ds.length) no := by
  have body : ∀ rows : D, rows = .lst ds ∨ rows = .tup ds → (M.each (M.gn 5) (M.drop (M.met 4 appO (M.cons (M.met 3 popO (M.cons (M.call [.ow, .an, .an, .ow, .ow, .fz] [.ow, .an] (m_law_take 3) (M.cons (M.ovar 0) (M.cons (M.oval (M.callB lenO2 (M.cons (M.ovar 3) (M.nil)))) (M.nil)))) (M.nil))) (M.nil)))) ((List.range (min k ds.length)).map fun (i : Nat) => D.int i)
      [some p, some rows, some (.int (k : Int)), some (.lst ds), some (.lst []), none]).wp ⟨fun ρ => ∃ es rest p' z, ρ = [some p', some rows, some (.int (k : Int)), some (.lst rest), some (.lst es), z] ∧ Pool p' ∧ (es ++ rest).Perm ds ∧ es.length = min k ds.length, fun _ _ => False, fun _ => False, fun _ => False, no⟩ := by
    intro rows hr
    refine each_wp (I := fun todo ρ => ∃ es rest p' z, ρ = [some p', some rows, some (.int (k : Int)), some (.lst rest), some (.lst es), z] ∧ Pool p' ∧ (es ++ rest).Perm ds ∧ es.length + todo.length = min k ds.length) (fun d todo ρ hI => ?_) (fun ρ hI => ?_) _ _ ⟨[], ds, p, none, rfl, hp, by simp, by simp⟩
    · obtain ⟨es, rest, p', z, rfl, hP, hperm, hlen⟩ := hI
      have hl := hperm.length_eq
      rw [List.length_append] at hl
      rw [List.length_cons] at hlen
      have hpos : 0 < rest.length := by omega
      simp [chk, chkA, owIdx, md]
      refine Out.wp.imp (take_spec hP (by omega) (by omega)) ?_
      intro r hr
      unfold Took at hr
      rcases hr with ⟨x, hr⟩
      rcases hr with ⟨p'', hr⟩
      rcases hr with ⟨er, hr⟩
      rcases hr with ⟨hx, hP'⟩
      rw [er]
      clear er
      have hx' : x < rest.length := by omega
      simp [p_pop (show x < 1000000000 by omega) (List.getElem?_eq_getElem hx')]
      refine ⟨by omega, es ++ [rest[x]], rest.eraseIdx x, p'', ⟨rfl, rfl, rfl⟩, hP', ?_, by simp; omega⟩
      refine List.Perm.trans ?_ hperm
      rw [List.append_assoc]
      refine List.Perm.append_left _ ?_
      show (rest[x] :: rest.eraseIdx x).Perm rest
      exact perm_eraseIdx hx'
    · obtain ⟨es, rest, p', z, rfl, hP, hperm, hlen⟩ := hI
      exact ⟨es, rest, p', z, rfl, hP, hperm, by simpa using hlen⟩
  have hmin : (if ds.length < k then (ds.length : Int) else (k : Int)) = ((min k ds.length : Nat) : Int) := by split <;> omega
  rcases hr with rfl | rfl
  · simp [m_law_some, b_law_some, chk, chkA, owIdx, md, ioOf, ioFrom]
    rw [hmin, p_rng1 (by omega)]
    refine SOut.wp.mono (body _ (.inl rfl)) (fun ρ h => ?_) (fun _ _ h => h.elim) (fun _ h => h.elim) (fun _ h => h.elim) (fun _ h => h)
    obtain ⟨es, rest, p', z, rfl, hP, hperm, hlen⟩ := h
    simp
    exact ⟨es, rest, p', ⟨rfl, rfl⟩, hP, hperm, hlen⟩
  · simp [m_law_some, b_law_some, chk, chkA, owIdx, md, ioOf, ioFrom]
    rw [hmin, p_rng1 (by omega)]
    refine SOut.wp.mono (body _ (.inr rfl)) (fun ρ h => ?_) (fun _ _ h => h.elim) (fun _ h => h.elim) (fun _ h => h.elim) (fun _ h => h)
    obtain ⟨es, rest, p', z, rfl, hP, hperm, hlen⟩ := h
    simp
    exact ⟨es, rest, p', ⟨rfl, rfl⟩, hP, hperm, hlen⟩
def isSeq (d : D) (r : List Int) : Prop := d = tupI r ∨ d = .lst (r.map .int)
theorem isSeq.walk {d : D} {r : List Int} (h : isSeq d r) {P : List D → Prop} {X : Exc → Prop} : (walked d).wp P X = P (r.map .int) := by rcases h with rfl | rfl <;> rfl
theorem isSeq.ix {d : D} {r : List Int} (h : isSeq d r) {i : Nat} (hi : i < r.length) {P : D → Prop} {X : Exc → Prop} : (ixO2 d (.int (i : Int))).wp P X = P (.int (r.getD i 0)) := by
  have e : (r.map D.int)[i]? = some (.int (r.getD i 0)) := by simp [List.getD_eq_getElem?_getD, hi]
  rcases h with rfl | rfl
  · exact p_ixT e
  · exact p_ixL e
theorem isSeq.len {d : D} {r : List Int} (h : isSeq d r) {P : D → Prop} {X : Exc → Prop} : (lenO2 [d]).wp P X = P (.int r.length) := by
  rcases h with rfl | rfl
  · show (lenO2 [.tup (r.map .int)]).wp P X = _
    rw [p_lenT, List.length_map]
  · rw [p_lenL, List.length_map]
theorem isSeq.tup {d : D} {r : List Int} (h : isSeq d r) {P : D → Prop} {X : Exc → Prop} : (tupO [d]).wp P X = P (tupI r) := by rcases h with rfl | rfl <;> rfl
theorem comp_body {a b : D} {r s : List Int} (ha : isSeq a r) (hb : isSeq b s) (hr : Row s.length r) (hl : r.length ≤ 100000) {P : List D × Env → Prop} {X : Exc → Prop} (k : P ((cmp r s).map .int, [some a, some b, none])) :
    (M.lcAux (M.gn 2) M.yes (M.op2 ixO2 (M.ovar 1) (M.ovar 2)) [2] (r.map .int) [] [some a, some b, none]).wp P X := by
  refine lc_pure (fun d => match d with | .int x => D.int (s.getD x.toNat 0) | d => d) (fun d => rfl) (fun d hd => ?_) (by simpa using hl) ?_
  · obtain ⟨x, hx, rfl⟩ := List.mem_map.mp hd
    obtain ⟨i, rfl, hi⟩ := hr.nat hx
    simp [hb.ix hi]
  · unfold cmp at k
    rw [List.map_map] at k ⊢
    exact k
theorem law_composed_spec {a b : D} {r s : List Int} (ha : isSeq a r) (hb : isSeq b s) (hr : Row s.length r) (hl : r.length ≤ 100000) : (m_law_composed [a, b]).wp (fun x => x = (tupI (cmp r s), [])) no := by
  simp [m_law_composed, b_law_composed, ha.walk, M.wipeE]
  refine comp_body ha hb hr hl ?_
  simp [ioOf, ioFrom, tupI]
theorem composed_spec {a b : D} {r s : List Int} (ha : isSeq a r) (hb : isSeq b s) (hr : Row s.length r) (hl : r.length ≤ 100000) : (m_composed [a, b]).wp (fun x => x = (tupI (cmp r s), [])) no := by
  simp [m_composed, b_composed, ha.walk, M.wipeE]
  refine comp_body ha hb hr hl ?_
  simp [ioOf, ioFrom, tupI]
theorem rgT_eq (n : Nat) : D.tup (rgD 0 (n : Int)) = tupI (idn n) := by rw [rgD_nat]; unfold tupI idn; rw [List.map_map]; rfl
theorem rgL_eq (n : Nat) : D.lst (rgD 0 (n : Int)) = .lst ((idn n).map .int) := by rw [rgD_nat]; unfold idn; rw [List.map_map]; rfl
theorem unmoved_spec {n : Nat} (hn : n ≤ 1000) : (m_unmoved [.int (n : Int)]).wp (fun x => x = (tupI (idn n), [])) no := by
  simp [m_unmoved, b_unmoved, rgOk_nat (show n ≤ 16000000 by omega), ioOf, ioFrom, rgT_eq]
theorem tups_ne {nss : List (List Int)} (h : nss ≠ []) : ints? (nss.map tupI) = none := by
  cases nss with
  | nil => exact absurd rfl h
  | cons a b => rfl
theorem okT_pm {n : Nat} {nss : List (List Int)} (hn : 1 ≤ n) (hn2 : n ≤ 1000) (hl : nss.length < 64) (h : ∀ a ∈ nss, Pm n a) : okT nss = true := by
  unfold okT
  rw [decide_eq_true hl, Bool.true_and, List.all_eq_true]
  intro a ha
  have pa := h a ha
  have hd : (nss.headD [0]).length = n := by
    cases nss with
    | nil => cases ha
    | cons b c => exact (h b List.mem_cons_self).len
  rw [hd, decide_eq_true pa.len, decide_eq_true (show 1 ≤ a.length by rw [pa.len]; exact hn), Bool.true_and, Bool.true_and, List.all_eq_true]
  intro x hx
  obtain ⟨i, rfl, hi⟩ := pa.row.nat hx
  rw [decide_eq_true (show (0 : Int) ≤ i by omega), decide_eq_true (show (i : Int) < cBd by show (i : Int) < 1000000; omega)]; rfl
theorem sort_rows {n : Nat} {nss : List (List Int)} (hn : 1 ≤ n) (hn2 : n ≤ 1000) (h0 : nss ≠ []) (hl : nss.length < 64) (h : ∀ a ∈ nss, Pm n a) {P : D → Prop} {X : Exc → Prop} : (sortO2 [.lst (nss.map tupI)]).wp P X = P (.lst ((isortT nss).map tupI)) := by
  unfold sortO2
  dsimp only
  rw [tups_ne h0]
  dsimp only
  unfold sortTs
  rw [tups?_map]
  dsimp only
  rw [if_pos (okT_pm hn hn2 hl h)]; rfl
theorem sort_keys {n : Nat} {nss : List (List Int)} {vs : List D} (hn : 1 ≤ n) (hn2 : n ≤ 1000) (hl : nss.length < 64) (h : ∀ a ∈ nss, Pm n a) {P : D → Prop} {X : Exc → Prop} : (sortO2 [.dic (nss.map tupI) vs]).wp P X = P (.lst ((isortT nss).map tupI)) := by
  unfold sortO2 sortTs
  dsimp only
  rw [tups?_map]
  dsimp only
  rw [if_pos (okT_pm hn hn2 hl h)]; rfl
theorem sort_perm {n : Nat} {a b : List (List Int)} (hn : 1 ≤ n) (hn2 : n ≤ 1000) (hl : a.length < 64) (h : ∀ x ∈ a, Pm n x) (p : a.Perm b) : isortT a = isortT b := by
  refine sorted_uniqT ((isortT_perm a).trans (p.trans (isortT_perm b).symm)) (isortT_sorted a) (isortT_sorted b) fun x hx y hy e => okT_inj (okT_pm hn hn2 hl h) x ((isortT_perm a).mem_iff.mp hx) y ((isortT_perm a).mem_iff.mp hy) e
/-- an invariant of the lists that the law makes -/
structure Cl (n : Nat) (gs F : List (List Int)) (done : Nat) : Prop where
  nd : F.Nodup
  reach : ∀ f ∈ F, Reach n gs f
  one : idn n ∈ F
  closed : ∀ i, i < done → ∀ f, F[i]? = some f → ∀ g ∈ gs, cmp f g ∈ F
theorem Cl.add {n : Nat} {gs F : List (List Int)} {done : Nat} (c : Cl n gs F done) {f : List Int} (h : f ∉ F) (r : Reach n gs f) (hd : done ≤ F.length) : Cl n gs (F ++ [f]) done where
  nd := by
    rw [List.nodup_append]
    exact ⟨c.nd, by simp, fun a ha b hb e => h (by rw [List.mem_singleton] at hb; rw [← hb, ← e]; exact ha)⟩
  reach := fun x hx => by
    rcases List.mem_append.mp hx with hx | hx
    · exact c.reach x hx
    · rw [List.mem_singleton] at hx; rw [hx]; exact r
  one := List.mem_append_left _ c.one
  closed := fun i hi x hx g hg => by
    rw [List.getElem?_append_left (by omega)] at hx
    exact List.mem_append_left _ (c.closed i hi x hx g hg)
theorem Cl.all {n : Nat} {gs F : List (List Int)} {done : Nat} (c : Cl n gs F done) (h : F.length ≤ done) {f : List Int} (r : Reach n gs f) : f ∈ F := by
  induction r with
  | one => exact c.one
  | mul _ hg ih =>
    obtain ⟨i, hi⟩ := List.mem_iff_getElem?.mp ih
    have := (List.getElem?_eq_some_iff.mp hi).1
    exact c.closed i (by omega) _ hi _ hg
/-- what the law tells of the changes that are made of some -/
def allOf (n : Nat) (gs : List (List Int)) (d : D) : Prop := ∃ F : List (List Int), Cl n gs F F.length ∧ F.length ≤ 24 ∧ d = .tup ((isortT F).map tupI)
def ClOut (n : Nat) (gs : List (List Int)) (k : Nat) (todo : List D) (ρ : Env) : Prop := ∃ (F : List (List Int)) (z1 z2 z3 : Option D), todo = ((List.range 25).drop k).map (fun (i : Nat) => D.int i) ∧ k ≤ 25 ∧
  ρ = [some (.int (n : Int)), some (.lst (gs.map tupI)), some (.lst (F.map tupI)), z1, z2, z3] ∧ Cl n gs F (min k F.length) ∧ F.length ≤ 1 + k * 10
def ClIn (n : Nat) (gs : List (List Int)) (k : Nat) (rest : List D) (ρ : Env) : Prop := ∃ (pre post : List (List Int)) (F : List (List Int)) (z2 z3 : Option D), gs = pre ++ post ∧ rest = post.map tupI ∧
  ρ = [some (.int (n : Int)), some (.lst (gs.map tupI)), some (.lst (F.map tupI)), some (.int (k : Int)), z2, z3] ∧ Cl n gs F k ∧ k < F.length ∧ F.length ≤ 1 + k * 10 + pre.length ∧ ∀ f, F[k]? = some f → ∀ g ∈ pre, cmp f g ∈ F
theorem closed_spec {n : Nat} (hn : 1 ≤ n) (hn2 : n ≤ 1000) {gs : List (List Int)} (hg : ∀ g ∈ gs, Pm n g) (hgl : gs.length ≤ 10) : (m_law_closed [.int (n : Int), .lst (gs.map tupI)]).wp (fun x => (x = (.non, []) ∨ ∃ d, allOf n gs d ∧ x = (d, [])) ∧ (Good n gs → x ≠ (.non, []))) no := by
  simp [m_law_closed, b_law_closed, rgOk_nat (show n ≤ 16000000 by omega), rgT_eq]
  have e25 : ∀ {P : List D → Prop} {X : Exc → Prop}, (rng1 [.int 25]).wp P X = P ((List.range 25).map fun (i : Nat) => D.int i) := p_rng1 (n := 25) (by omega)
  rw [e25]
  refine each_wp (I := fun todo ρ => ∃ k, ClOut n gs k todo ρ) (fun d todo ρ hI => ?_) (fun ρ hI => ?_) _ _ ⟨0, [idn n], none, none, none, rfl, by omega, rfl, ⟨by simp, fun f hf => by rw [List.mem_singleton] at hf; rw [hf]; exact .one, by simp, fun i hi => by simp at hi⟩, by simp⟩
  · obtain ⟨k, F, z1, z2, z3, ht, hk, rfl, hc, hl⟩ := hI
    have hk25 : k < 25 := by
      apply Classical.byContradiction
      intro h
      have : k = 25 := by omega
      subst this
      rw [List.drop_eq_nil_of_le (by simp)] at ht
      cases ht
    rw [List.drop_eq_getElem_cons (by simpa using hk25), List.map_cons] at ht
    injection ht with h1 h2
    rw [List.getElem_range] at h1
    subst h1
    simp
    by_cases hkl : k < F.length
    · rw [if_pos hkl]
      refine each_wp (I := ClIn n gs k) (fun d rest ρ hI => ?_) (fun ρ hI => ?_) _ _ ⟨[], gs, F, z2, z3, rfl, rfl, rfl, (by rw [Nat.min_eq_left (by omega)] at hc; exact hc), hkl, by simpa using hl, fun _ _ g hg => nomatch hg⟩
      · obtain ⟨pre, post, F', z2, z3, e1, e2, rfl, hc', hk', hl', hpre⟩ := hI
        cases post with
        | nil => cases e2
        | cons g post =>
          rw [List.map_cons] at e2
          injection e2 with e2 e3
          subst e2 e3
          obtain ⟨f, hf⟩ : ∃ f, F'[k]? = some f := ⟨_, List.getElem?_eq_getElem hk'⟩
          have hix : (F'.map tupI)[k]? = some (tupI f) := by rw [List.getElem?_map, hf]; rfl
          have hfm : f ∈ F' := List.mem_of_getElem? hf
          have pf := (hc'.reach f hfm).pm hg
          have hgm : g ∈ gs := by rw [e1]; simp
          have pg := hg g hgm
          have hpl : pre.length + 1 ≤ gs.length := by rw [e1]; simp
          simp [p_ixL hix, chk, chkA, owIdx, md]
          refine Out.wp.imp (law_composed_spec (.inl rfl) (.inl rfl) (by rw [pg.len]; exact pf.row) (by rw [pf.len]; omega)) fun r hr => ?_
          rw [hr]
          simp [p_notInL]
          by_cases hm : cmp f g ∈ F'
          · rw [if_pos hm]
            refine ⟨pre ++ [g], post, F', _, _, by rw [e1]; simp, rfl, rfl, hc', hk', by simp; omega, fun f' hf' g' hg' => ?_⟩
            rw [hf] at hf'
            cases hf'
            rcases List.mem_append.mp hg' with q | q
            · exact hpre f hf g' q
            · rw [List.mem_singleton] at q; rw [q]; exact hm
          · rw [if_neg hm]
            refine ⟨by omega, pre ++ [g], post, F' ++ [cmp f g], some (tupI g), some (tupI (cmp f g)), by rw [e1]; simp, rfl, by simp, hc'.add hm (.mul (hc'.reach f hfm) hgm) (by omega), by simp; omega, by simp; omega, fun f' hf' g' hg' => ?_⟩
            rw [List.getElem?_append_left hk', hf] at hf'
            cases hf'
            rcases List.mem_append.mp hg' with q | q
            · exact List.mem_append_left _ (hpre f hf g' q)
            · rw [List.mem_singleton] at q; rw [q]; simp
      · obtain ⟨pre, post, F', z2, z3, e1, e2, rfl, hc', hk', hl', hpre⟩ := hI
        have : post = [] := by
          cases post with
          | nil => rfl
          | cons a b => cases e2
        subst this
        rw [List.append_nil] at e1
        subst e1
        refine ⟨k + 1, F', _, _, _, h2, by omega, rfl, ⟨hc'.nd, hc'.reach, hc'.one, fun i hi f hf g hg' => ?_⟩, by omega⟩
        by_cases q : i < k
        · exact hc'.closed i q f hf g hg'
        · have : i = k := by omega
          subst this
          exact hpre f hf g hg'
    · rw [if_neg hkl]
      refine ⟨k + 1, F, _, _, _, h2, by omega, rfl, ?_, by omega⟩
      rw [Nat.min_eq_right (by omega)] at hc ⊢
      exact hc
  · obtain ⟨k, F, z1, z2, z3, ht, hk, rfl, hc, hl⟩ := hI
    have : k = 25 := by
      apply Classical.byContradiction
      intro h
      rw [List.drop_eq_getElem_cons (by simp; omega)] at ht
      cases ht
    subst this
    simp
    by_cases h : (F.length : Int) < 25
    · rw [if_pos h, sort_rows hn hn2 (fun e => by have := hc.one; rw [e] at this; cases this) (by omega) fun a ha => (hc.reach a ha).pm hg]
      simp [ioOf, ioFrom]
      rw [Nat.min_eq_right (by omega)] at hc
      exact ⟨F, hc, by omega, rfl⟩
    · rw [if_neg h]
      simp [ioOf, ioFrom]
      rintro ⟨G, hG, hall⟩
      have := nodup_le hc.nd fun f hf => hall f (hc.reach f hf)
      omega
end PyD

set_option Elab.async false
set_option linter.all false
set_option maxRecDepth 100000
set_option maxHeartbeats 1000000
namespace PyD
open PySem
theorem ext_len (n : Nat) (row s : List Int) : (ext n row s).length = n := by unfold ext; simp [idn_len]
theorem ext_get {n : Nat} {row s : List Int} {i : Nat} (hi : i < n) : (ext n row s).getD i 0 = if (i : Int) ∈ row then row.getD (s.getD (row.idxOf (i : Int)) 0).toNat 0 else (i : Int) := by
  unfold ext idn
  simp [List.getD_eq_getElem?_getD, hi]
theorem ext_pm {n : Nat} {row s : List Int} (hr : Row n row) (nd : row.Nodup) (hs : Pm row.length s) : Pm n (ext n row s) := by
  have val : ∀ x ∈ row, ∃ j : Nat, s.getD (row.idxOf x) 0 = j ∧ j < row.length := fun x hx => hs.row.nat (getD_mem (by rw [hs.len]; exact List.idxOf_lt_length_of_mem hx))
  refine ⟨ext_len n row s, fun x hx => ?_, ?_⟩
  · unfold ext at hx
    obtain ⟨y, hy, rfl⟩ := List.mem_map.mp hx
    split
    · rename_i hm
      obtain ⟨j, ej, hj⟩ := val y hm
      rw [ej, Int.toNat_natCast]
      exact hr _ (getD_mem hj)
    · exact (idn_pm n).row y hy
  · unfold ext
    refine map_nodup (idn_pm n).nd fun x hx y hy e => ?_
    by_cases h1 : x ∈ row <;> by_cases h2 : y ∈ row
    · rw [if_pos h1, if_pos h2] at e
      obtain ⟨i, ei, hi⟩ := val x h1
      obtain ⟨j, ej, hj⟩ := val y h2
      rw [ei, ej, Int.toNat_natCast, Int.toNat_natCast] at e
      have hij := getD_inj nd hi hj e
      have e2 : s.getD (row.idxOf x) 0 = s.getD (row.idxOf y) 0 := by rw [ei, ej, hij]
      have := getD_inj hs.nd (by rw [hs.len]; exact List.idxOf_lt_length_of_mem h1) (by rw [hs.len]; exact List.idxOf_lt_length_of_mem h2) e2
      rw [← getD_idx h1, this, getD_idx h2]
    · rw [if_pos h1, if_neg h2] at e
      obtain ⟨i, ei, hi⟩ := val x h1
      rw [ei, Int.toNat_natCast] at e
      exact absurd (e ▸ getD_mem hi) h2
    · rw [if_neg h1, if_pos h2] at e
      obtain ⟨i, ei, hi⟩ := val y h2
      rw [ei, Int.toNat_natCast] at e
      exact absurd (e.symm ▸ getD_mem hi) h1
    · rw [if_neg h1, if_neg h2] at e; exact e
def rotl (m : Nat) : List Int := (List.range m).map fun i => (((i + 1) % m : Nat) : Int)
theorem rotl_pm (m : Nat) : Pm m (rotl m) := by
  refine ⟨by unfold rotl; simp, fun x hx => ?_, ?_⟩
  · obtain ⟨i, hi, rfl⟩ := List.mem_map.mp hx
    have := List.mem_range.mp hi
    have := Nat.mod_lt (i + 1) (show 0 < m by omega)
    omega
  · refine map_nodup List.nodup_range fun i hi j hj e => ?_
    have hi := List.mem_range.mp hi
    have hj := List.mem_range.mp hj
    have e : (i + 1) % m = (j + 1) % m := by omega
    by_cases h1 : i + 1 = m <;> by_cases h2 : j + 1 = m
    · omega
    · rw [h1, Nat.mod_self, Nat.mod_eq_of_lt (show j + 1 < m by omega)] at e; omega
    · rw [h2, Nat.mod_self, Nat.mod_eq_of_lt (show i + 1 < m by omega)] at e; omega
    · rw [Nat.mod_eq_of_lt (show i + 1 < m by omega), Nat.mod_eq_of_lt (show j + 1 < m by omega)] at e; omega
theorem rotl_get {m i : Nat} (h : i < m) : (rotl m).getD i 0 = ((i + 1) % m : Nat) := by unfold rotl; simp [List.getD_eq_getElem?_getD, h]
/-- the cycle of a row -/
def rnd (n : Nat) (r : List Int) : List Int := ext n r (rotl r.length)
theorem rnd_pm {n : Nat} {r : List Int} (hr : Row n r) (nd : r.Nodup) : Pm n (rnd n r) := ext_pm hr nd (rotl_pm _)
def rndK (n : Nat) (r : List Int) (k : Nat) : List Int := (idn n).map fun x => if x ∈ r.take k then r.getD ((r.idxOf x + 1) % r.length) 0 else x
theorem rndK_len (n : Nat) (r : List Int) (k : Nat) : (rndK n r k).length = n := by unfold rndK; simp [idn_len]
theorem rndK_get {n : Nat} {r : List Int} {k i : Nat} (hi : i < n) : (rndK n r k).getD i 0 = if (i : Int) ∈ r.take k then r.getD ((r.idxOf (i : Int) + 1) % r.length) 0 else (i : Int) := by
  unfold rndK idn
  simp [List.getD_eq_getElem?_getD, hi]
theorem rndK_step {n : Nat} {r : List Int} (hr : Row n r) (nd : r.Nodup) {k : Nat} (hk : k < r.length) : (rndK n r k).set (r.getD k 0).toNat (r.getD ((k + 1) % r.length) 0) = rndK n r (k + 1) := by
  obtain ⟨p, ep, hp⟩ := hr.nat (getD_mem hk)
  refine ext_getD (by rw [List.length_set, rndK_len, rndK_len]) fun i hi => ?_
  rw [List.length_set, rndK_len] at hi
  rw [rndK_get hi, ep, Int.toNat_natCast]
  have htk : (i : Int) ∈ r.take (k + 1) ↔ (i : Int) ∈ r.take k ∨ i = p := by
    rw [List.take_succ, List.mem_append, List.getElem?_eq_getElem hk]
    have : r[k] = (p : Int) := by rw [← ep, List.getD_eq_getElem?_getD, List.getElem?_eq_getElem hk]; rfl
    rw [this, Option.toList_some, List.mem_singleton]
    exact or_congr Iff.rfl ⟨fun h => by omega, fun h => by rw [h]⟩
  by_cases h : i = p
  · subst h
    rw [if_pos (htk.mpr (.inr rfl)), List.getD_eq_getElem?_getD, List.getElem?_set_self (by rw [rndK_len]; exact hi)]
    rw [← ep, idx_getD nd hk]; rfl
  · rw [List.getD_eq_getElem?_getD, List.getElem?_set_ne (Ne.symm h), ← List.getD_eq_getElem?_getD, rndK_get hi]
    by_cases q : (i : Int) ∈ r.take k
    · rw [if_pos q, if_pos (htk.mpr (.inl q))]
    · rw [if_neg q, if_neg (fun z => (htk.mp z).elim q h)]
theorem rndK_end {n : Nat} {r : List Int} : rndK n r r.length = rnd n r := by
  refine ext_getD (by rw [rndK_len]; unfold rnd; rw [ext_len]) fun i hi => ?_
  rw [rndK_len] at hi
  rw [rndK_get hi, List.take_length]
  unfold rnd
  rw [ext_get hi]
  split
  · rename_i hm
    rw [rotl_get (List.idxOf_lt_length_of_mem hm), Int.toNat_natCast]
  · rfl
theorem set_map (r : List Int) (i : Nat) (v : Int) : (r.map D.int).set i (.int v) = (r.set i v).map D.int := by rw [List.map_set]
def RndI (n : Nat) (r : List Int) (todo : List D) (ρ : Env) : Prop := ∃ (k : Nat) (z : Option D), todo = ((List.range r.length).drop k).map (fun (i : Nat) => D.int i) ∧ k ≤ r.length ∧ ρ = [some (.int (n : Int)), some (.lst (r.map .int)), some (.lst ((rndK n r k).map .int)), z]
theorem range_head {n k : Nat} {d : D} {todo : List D} (hk : k ≤ n) (h : d :: todo = ((List.range n).drop k).map (fun (i : Nat) => D.int i)) : k < n ∧ d = .int (k : Int) ∧ todo = ((List.range n).drop (k + 1)).map (fun (i : Nat) => D.int i) := by
  have hk' : k < n := by
    apply Classical.byContradiction
    intro q
    rw [List.drop_eq_nil_of_le (by simp; omega)] at h
    cases h
  rw [List.drop_eq_getElem_cons (by simpa using hk'), List.map_cons] at h
  injection h with h1 h2
  rw [List.getElem_range] at h1
  exact ⟨hk', h1, h2⟩
theorem range_end {n k : Nat} (h : ([] : List D) = ((List.range n).drop k).map (fun (i : Nat) => D.int i)) : n ≤ k := by
  have := congrArg List.length h
  simp at this
  omega
theorem round_spec {n : Nat} (hn2 : n ≤ 1000) {r : List Int} (hr : Row n r) (nd : r.Nodup) : (m_law_round [.int (n : Int), .lst (r.map .int)]).wp (fun x => x = (tupI (rnd n r), [])) no := by
  have hl : r.length ≤ n := by
    have := nodup_le (m := idn n) nd fun x hx => by
      obtain ⟨i, rfl, hi⟩ := hr.nat hx
      exact List.mem_map.mpr ⟨i, List.mem_range.mpr hi, rfl⟩
    rwa [idn_len] at this
  simp [m_law_round, b_law_round, rgOk_nat (show n ≤ 16000000 by omega), rgL_eq]
  rw [p_rng1 (by omega)]
  refine each_wp (I := RndI n r) (fun d todo ρ hI => ?_) (fun ρ hI => ?_) _ _ ⟨0, none, rfl, Nat.zero_le _, by simp [rndK]⟩
  · obtain ⟨k, z, ht, hk, rfl⟩ := hI
    obtain ⟨hk', rfl, h2⟩ := range_head hk ht
    have hm := Nat.mod_lt (k + 1) (show 0 < r.length by omega)
    have e1 : ((k : Int) + 1).fmod (r.length : Int) = (((k + 1) % r.length : Nat) : Int) := by
      rw [Int.fmod_eq_emod_of_nonneg _ (by omega)]; rfl
    have e2 : (r.map D.int)[(k + 1) % r.length]? = some (.int (r.getD ((k + 1) % r.length) 0)) := by simp [List.getD_eq_getElem?_getD, hm]
    have e3 : (r.map D.int)[k]? = some (.int (r.getD k 0)) := by simp [List.getD_eq_getElem?_getD, hk']
    have hlen : ¬ (r.length : Int) = 0 := by omega
    obtain ⟨p, ep, hp⟩ := hr.nat (getD_mem hk')
    simp [hlen, e1]
    refine ⟨by intro q; rw [q] at hk'; simp at hk', ?_⟩
    have e4 : ((k : Int) + 1) % (r.length : Int) = (((k + 1) % r.length : Nat) : Int) := rfl
    rw [e4, p_ixL e2]
    simp [p_ixL e3]
    have := rndK_step hr nd hk'
    rw [ep, Int.toNat_natCast] at this
    rw [List.getD_eq_getElem?_getD] at ep this
    rw [ep, p_stoL (by simp [rndK_len]; exact hp), set_map, this]
    exact ⟨k + 1, _, h2, hk', rfl⟩
  · obtain ⟨k, z, ht, hk, rfl⟩ := hI
    have := range_end ht
    have : k = r.length := by omega
    subst this
    simp [ioOf, ioFrom, rndK_end, tupI]
theorem ints?_all : ∀ ns : List Int, ints? (ns.map D.int) = some ns
  | [] => rfl
  | n :: ns => by
    rw [List.map_cons]
    unfold ints?
    rw [ints?_all ns]; rfl
theorem sort_ints (ns : List Int) {P : D → Prop} {X : Exc → Prop} : (sortO2 [.lst (ns.map .int)]).wp P X = P (.lst ((isort ns).map .int)) := by
  unfold sortO2
  dsimp only
  rw [ints?_all]; rfl
theorem Pm.perm {n : Nat} {a b : List Int} (h : Pm n a) (p : b.Perm a) : Pm n b :=
  ⟨by rw [p.length_eq, h.len], fun x hx => h.row x (p.mem_iff.mp hx), p.nodup_iff.mpr h.nd⟩
def BlkI (n size : Nat) (todo : List D) (ρ : Env) : Prop := ∃ (k : Nat) (f : List Int) (z z' : Option D), todo = ((List.range n).drop k).map (fun (i : Nat) => D.int i) ∧ k ≤ n ∧ f.length = k ∧ ρ = [some (.int (n : Int)), some (.int (size : Int)), some (.lst (f.map .int)), z, z']
theorem blocks_spec {n : Nat} (hn2 : n ≤ 1000) {size : Nat} (h1 : 1 ≤ size) (h2 : size ≤ 1000) : (m_law_blocks [.int (n : Int), .int (size : Int)]).wp (fun x => ∃ r, Pm n r ∧ x = (tupI r, [])) no := by
  simp [m_law_blocks, b_law_blocks]
  rw [p_rng1 (by omega)]
  refine each_wp (I := BlkI n size) (fun d todo ρ hI => ?_) (fun ρ hI => ?_) _ _ ⟨0, [], none, none, rfl, Nat.zero_le _, rfl, rfl⟩
  · obtain ⟨k, f, z, z', ht, hk, hf, rfl⟩ := hI
    obtain ⟨hk', rfl, h3⟩ := range_head hk ht
    have e : ¬ size = 0 := by omega
    simp [e]
    refine ⟨by omega, ?_⟩
    have fin : ∀ v : Int, f.length < 100000 ∧ BlkI n size todo [some (.int (n : Int)), some (.int (size : Int)), some (.lst (f.map .int ++ [.int v])), some (.int (k : Int)), some (.int v)] := fun v =>
      ⟨by omega, k + 1, f ++ [v], some (.int (k : Int)), some (.int v), h3, hk', by simp [hf], by simp⟩
    split
    · exact fin _
    · exact fin _
  · obtain ⟨k, f, z, z', ht, hk, hf, rfl⟩ := hI
    simp [sort_ints, rgOk_nat (show n ≤ 16000000 by omega), rgL_eq, p_eqL, rgT_eq]
    split
    · rename_i he
      simp [ioOf, ioFrom]
      refine ⟨f, (idn_pm n).perm ?_, rfl⟩
      rw [← he]
      exact (isort_perm f).symm
    · simp [ioOf, ioFrom]
      exact ⟨idn n, idn_pm n, rfl⟩
theorem perm_pre {α : Type} {f : α → D} {g : D → α} (hg : ∀ x, g (f x) = x) {a : List D} {l : List α} (h : a.Perm (l.map f)) : ∃ m : List α, a = m.map f ∧ m.Perm l := by
  refine ⟨a.map g, ?_, ?_⟩
  · rw [List.map_map]
    refine (List.map_id a).symm.trans (List.map_congr_left fun d hd => ?_)
    obtain ⟨x, _, rfl⟩ := List.mem_map.mp (h.mem_iff.mp hd)
    show f x = f (g (f x))
    rw [hg]
  · have := h.map g
    rw [List.map_map] at this
    have e : l.map (g ∘ f) = l := by
      refine (List.map_congr_left (g := id) fun x _ => hg x).trans (List.map_id l)
    rwa [e] at this
def unI : D → Int
  | .int i => i
  | _ => 0
def unT : D → List Int
  | .tup ds => (ints? ds).getD []
  | _ => []
theorem unT_tupI (r : List Int) : unT (tupI r) = r := by
  show (ints? (r.map D.int)).getD [] = r
  rw [ints?_all]; rfl
/-- a drawn order of 0 .. n - 1 -/
theorem row_spec {p : D} {n : Nat} (hp : Pool p) (hn : n ≤ 1000) {P : D × List D → Prop} (k : ∀ (r : List Int) (p' : D), r.Perm (idn n) → Pool p' → P (.lst (r.map .int), [p'])) : (m_law_some [p, .lst (rgD 0 (n : Int)), .int (n : Int)]).wp P no := by
  have e : rgD 0 (n : Int) = (idn n).map .int := by have := rgL_eq n; injection this
  rw [e]
  refine Out.wp.imp (some_spec hp (by simp [idn_len]; omega) (.inl rfl) n (by omega)) ?_
  intro x hx
  obtain ⟨es, rest, p', ex, hP, hperm, hl⟩ := hx
  rw [ex]
  have : rest = [] := by
    have := hperm.length_eq
    simp [idn_len] at this hl
    exact List.length_eq_zero_iff.mp (by omega)
  subst this
  rw [List.append_nil] at hperm
  obtain ⟨m, rfl, hm⟩ := perm_pre (f := D.int) (g := unI) (fun _ => rfl) hperm
  exact k m p' hm hP
/-- some of them -/
theorem part_spec {p : D} {n j : Nat} (hp : Pool p) (hn : n ≤ 1000) (hj : j ≤ 1000) {P : D × List D → Prop} (k : ∀ (r : List Int) (p' : D), Row n r → r.Nodup → r.length = min j n → Pool p' → P (.lst (r.map .int), [p'])) : (m_law_some [p, .lst (rgD 0 (n : Int)), .int (j : Int)]).wp P no := by
  have e : rgD 0 (n : Int) = (idn n).map .int := by have := rgL_eq n; injection this
  rw [e]
  refine Out.wp.imp (some_spec hp (by simp [idn_len]; omega) (.inl rfl) j (by omega)) ?_
  intro x hx
  obtain ⟨es, rest, p', ex, hP, hperm, hl⟩ := hx
  rw [ex]
  obtain ⟨m, em, hm⟩ := perm_pre (f := D.int) (g := unI) (fun _ => rfl) hperm
  have h1 : es = (m.take es.length).map .int := by
    rw [List.map_take, ← em, List.take_left']
    rfl
  have hnd : m.Nodup := hm.nodup_iff.mpr (idn_pm n).nd
  rw [h1]
  refine k _ p' (fun x hx => (idn_pm n).row x (hm.mem_iff.mp (List.mem_of_mem_take hx))) (List.Nodup.sublist (List.take_sublist _ _) hnd) ?_ hP
  rw [List.length_take]
  have := hm.length_eq
  rw [idn_len] at this
  simp [idn_len] at hl
  omega
theorem Pm.of_perm {n : Nat} {r : List Int} (h : r.Perm (idn n)) : Pm n r := (idn_pm n).perm h
theorem Row.sub {n : Nat} {a b : List Int} (h : Row n b) (s : ∀ x ∈ a, x ∈ b) : Row n a := fun x hx => h x (s x hx)
theorem shift_pm {n : Nat} (b : Nat) : Pm n ((idn n).map fun x => (x + (b : Int)) % (n : Int)) := by
  refine ⟨by rw [List.length_map, idn_len], fun x hx => ?_, map_nodup (idn_pm n).nd fun x hx y hy e => ?_⟩
  · obtain ⟨y, hy, rfl⟩ := List.mem_map.mp hx
    obtain ⟨i, rfl, hi⟩ := (idn_pm n).row.nat hy
    exact ⟨Int.emod_nonneg _ (by omega), Int.emod_lt_of_pos _ (by omega)⟩
  · obtain ⟨i, rfl, hi⟩ := (idn_pm n).row.nat hx
    obtain ⟨j, rfl, hj⟩ := (idn_pm n).row.nat hy
    have h := Int.emod_emod_of_dvd (((i : Int) + b) - (j + b)) (Int.dvd_refl (n : Int))
    have : (((i : Int) + b) - (j + b)) % (n : Int) = 0 := by
      rw [Int.sub_emod, e, Int.sub_self, Int.zero_emod]
    have h2 : ((i : Int) - j) % (n : Int) = 0 := by
      have e2 : ((i : Int) + b) - (j + b) = i - j := by omega
      rwa [e2] at this
    obtain ⟨c, hc⟩ := Int.dvd_of_emod_eq_zero h2
    have : c = 0 := by
      rcases Int.lt_trichotomy c 0 with q | q | q
      · have : (n : Int) * c ≤ n * (-1) := Int.mul_le_mul_of_nonneg_left (by omega) (by omega)
        omega
      · exact q
      · have : (n : Int) * 1 ≤ n * c := Int.mul_le_mul_of_nonneg_left (by omega) (by omega)
        omega
    subst this
    omega
end PyD

set_option Elab.async false
set_option linter.all false
set_option maxRecDepth 100000
set_option maxHeartbeats 1000000
namespace PyD
open PySem
theorem flip_pm {n : Nat} : Pm n ((idn n).map fun x => (n : Int) - 1 - x) := by
  refine ⟨by rw [List.length_map, idn_len], fun x hx => ?_, map_nodup (idn_pm n).nd fun x hx y hy e => by omega⟩
  obtain ⟨y, hy, rfl⟩ := List.mem_map.mp hx
  obtain ⟨i, rfl, hi⟩ := (idn_pm n).row.nat hy
  omega
theorem cut_to (ds : List D) (k : Nat) : cutD ds none (some (k : Int)) = ds.take k := by
  unfold cutD
  have h0 : HT.sIx ds.length 0 none = 0 := rfl
  rw [h0, List.drop_zero, Nat.sub_zero]
  have : HT.sIx ds.length ds.length (some (k : Int)) = min k ds.length := by
    unfold HT.sIx
    first | rfl | (simp; omega) | (split <;> omega)
  rw [this]
  rcases Nat.le_total k ds.length with h | h
  · rw [Nat.min_eq_left h]
  · rw [Nat.min_eq_right h, List.take_length, List.take_of_length_le h]
theorem cut_ft (ds : List D) (j k : Nat) (h : j ≤ k) : cutD ds (some (j : Int)) (some (k : Int)) = (ds.drop j).take (k - j) := by
  unfold cutD
  have e : ∀ k : Nat, HT.sIx ds.length ds.length (some (k : Int)) = min k ds.length := fun k => by
    unfold HT.sIx
    first | rfl | (simp; omega) | (split <;> omega)
  have e0 : ∀ k : Nat, HT.sIx ds.length 0 (some (k : Int)) = min k ds.length := fun k => by
    unfold HT.sIx
    first | rfl | (simp; omega) | (split <;> omega)
  rw [e, e0]
  rcases Nat.le_total j ds.length with h1 | h1
  · rw [Nat.min_eq_left h1]
    rcases Nat.le_total k ds.length with h2 | h2
    · rw [Nat.min_eq_left h2]
    · rw [Nat.min_eq_right h2, List.take_of_length_le (by rw [List.length_drop]; omega), List.take_of_length_le (by rw [List.length_drop]; omega)]
  · rw [Nat.min_eq_right h1, List.drop_of_length_le (by omega), List.drop_of_length_le (by omega)]
    simp
def Cand (n : Nat) (x : D × List D) : Prop := ∃ (r : List Int) (p' : D), Pm n r ∧ Pool p' ∧ x = (tupI r, [p'])
theorem cut_int (r : List Int) (k : Nat) : cutD (r.map D.int) none (some (k : Int)) = (r.take k).map .int := by rw [cut_to, List.map_take]
theorem cut_int2 (r : List Int) (j k : Nat) (h : j ≤ k) : cutD (r.map D.int) (some (j : Int)) (some (k : Int)) = ((r.drop j).take (k - j)).map .int := by rw [cut_ft _ _ _ h, List.map_take, List.map_drop]
theorem rnd_spec {n : Nat} (hn2 : n ≤ 1000) {r : List Int} (hr : Row n r) (nd : r.Nodup) {l : List D} (hl : l = r.map .int) {P : D × List D → Prop} (k : P (tupI (rnd n r), [])) : (m_law_round [.int (n : Int), .lst l]).wp P no := by
  subst hl
  exact Out.wp.imp (round_spec hn2 hr nd) fun x hx => by rw [hx]; exact k
theorem blk_cand {n : Nat} (hn : n ≤ 8) {p : D} (hp : Pool p) {size : Nat} (h1 : 1 ≤ size) (h2 : size ≤ 1000) : (m_law_blocks [.int (n : Int), .int (size : Int)]).wp (fun x => Cand n (x.1, [p])) no := by
  have hn' : n ≤ 1000 := by omega
  refine Out.wp.imp (blocks_spec hn' h1 h2) ?_
  intro x hx
  rcases hx with ⟨r, h⟩
  rw [h.2]
  exact ⟨r, p, h.1, hp, rfl⟩
theorem cand_spec {p : D} {n : Nat} (hp : Pool p) (hn : 2 ≤ n) (hn2 : n ≤ 8) : (m_law_candidate [p, .int (n : Int)]).wp (Cand n) no := by
  simp [m_law_candidate, b_law_candidate, chk, chkA, owIdx, md, ioOf, ioFrom]
  refine Out.wp.imp (take_spec hp (by omega) (by omega)) ?_
  intro x hx
  obtain ⟨kind, p1, ex, hk, hp1⟩ := hx
  rw [ex]
  simp [rgOk_nat (show n ≤ 16000000 by omega)]
  refine row_spec hp1 (by omega) fun r p2 hr hp2 => ?_
  have pr := Pm.of_perm hr
  have sub2 : ∀ j k, Row n ((r.drop j).take k) := fun j k => pr.row.sub fun x hx => List.mem_of_mem_drop (List.mem_of_mem_take hx)
  have nd2 : ∀ j k, ((r.drop j).take k).Nodup := fun j k => List.Nodup.sublist ((List.take_sublist _ _).trans (List.drop_sublist _ _)) pr.nd
  have sub1 : ∀ k, Row n (r.take k) := fun k => pr.row.sub fun x hx => List.mem_of_mem_take hx
  have nd1 : ∀ k, (r.take k).Nodup := fun k => List.Nodup.sublist (List.take_sublist _ _) pr.nd
  have c2 : cutD (r.map D.int) none (some 2) = (r.take 2).map .int := cut_int r 2
  have c3 : cutD (r.map D.int) none (some 3) = (r.take 3).map .int := cut_int r 3
  have c24 : cutD (r.map D.int) (some 2) (some 4) = ((r.drop 2).take 2).map .int := cut_int2 r 2 4 (by omega)
  have c36 : cutD (r.map D.int) (some 3) (some 6) = ((r.drop 3).take 3).map .int := cut_int2 r 3 6 (by omega)
  have cmps : ∀ a b : List Int, Row n a → a.Nodup → Row n b → b.Nodup → (m_law_composed [tupI (rnd n a), tupI (rnd n b)]).wp (fun x => x = (tupI (cmp (rnd n a) (rnd n b)), [])) no := fun a b ha na hb nb =>
    law_composed_spec (.inl rfl) (.inl rfl) (by rw [(rnd_pm hb nb).len]; exact (rnd_pm ha na).row) (by rw [(rnd_pm ha na).len]; omega)
  have hkind : kind = 0 ∨ kind = 1 ∨ kind = 2 ∨ kind = 3 ∨ kind = 4 ∨ kind = 5 ∨ kind = 6 ∨ kind = 7 := by omega
  rcases hkind with e | e | e | e | e | e | e | e
  · subst e
    simp [c2]
    refine rnd_spec (by omega) (sub1 2) (nd1 2) (by simp) ?_
    simp
    exact ⟨_, _, rnd_pm (sub1 2) (nd1 2), hp2, rfl⟩
  · subst e
    simp
    refine Out.wp.imp (take_spec hp2 (by omega) (by omega)) ?_
    intro x hx
    obtain ⟨t, p3, ex, ht, hp3⟩ := hx
    rw [ex]
    have ct : cutD (r.map D.int) none (some (2 + (t : Int))) = (r.take (2 + t)).map .int := cut_int r (2 + t)
    simp [ct]
    refine rnd_spec (by omega) (sub1 (2 + t)) (nd1 (2 + t)) (by simp) ?_
    simp
    exact ⟨_, _, rnd_pm (sub1 _) (nd1 _), hp3, rfl⟩
  · subst e
    simp [c2, c24]
    refine rnd_spec (by omega) (sub1 2) (nd1 2) (by simp) ?_
    simp
    refine rnd_spec (by omega) (sub2 2 2) (nd2 2 2) (by simp) ?_
    simp
    refine Out.wp.imp (cmps _ _ (sub1 2) (nd1 2) (sub2 2 2) (nd2 2 2)) fun x hx => ?_
    rw [hx]
    simp
    exact ⟨_, _, cmp_pm (rnd_pm (sub1 2) (nd1 2)) (rnd_pm (sub2 2 2) (nd2 2 2)), hp2, rfl⟩
  · subst e
    simp
    refine Out.wp.imp (take_spec hp2 (by omega) (by omega)) ?_
    intro x hx
    obtain ⟨t, p3, ex, ht, hp3⟩ := hx
    rw [ex]
    simp [M.wipeE]
    rw [p_rng1 (by omega)]
    have hnz : ¬ n = 0 := by omega
    refine lc_pure (fun d => match d with | .int x => D.int ((x + t) % n) | d => d) (fun d => rfl) (fun d hd => ?_) (by simp; omega) ?_
    · obtain ⟨i, _, rfl⟩ := List.mem_map.mp hd
      have hf : ((i : Int) + t).fmod n = ((i : Int) + t) % n := Int.fmod_eq_emod_of_nonneg _ (by omega)
      simp [hnz, hf]
    · simp
      refine ⟨_, _, shift_pm t, hp3, ?_⟩
      unfold tupI idn
      rw [List.map_map, List.map_map]
      rfl
  · subst e
    simp [M.wipeE]
    rw [p_rng1 (by omega)]
    refine lc_pure (fun d => match d with | .int x => D.int (n - 1 - x) | d => d) (fun d => rfl) (fun d hd => ?_) (by simp; omega) ?_
    · obtain ⟨i, _, rfl⟩ := List.mem_map.mp hd
      simp
    · simp
      refine ⟨_, _, flip_pm, hp2, ?_⟩
      unfold tupI idn
      rw [List.map_map, List.map_map]
      rfl
  · subst e
    simp
    refine Out.wp.imp (take_spec hp2 (by omega) (by omega)) ?_
    intro x hx
    obtain ⟨t, p3, ex, ht, hp3⟩ := hx
    rw [ex]
    have ht3 : t = 0 ∨ t = 1 ∨ t = 2 := by omega
    rcases ht3 with e | e | e
    · subst e; simp; exact blk_cand (size := 1) hn2 hp3 (by decide) (by decide)
    · subst e; simp; exact blk_cand (size := 2) hn2 hp3 (by decide) (by decide)
    · subst e; simp; exact blk_cand (size := 4) hn2 hp3 (by decide) (by decide)
  · subst e
    simp [c3, c36]
    refine rnd_spec (by omega) (sub1 3) (nd1 3) (by simp) ?_
    simp
    refine rnd_spec (by omega) (sub2 3 3) (nd2 3 3) (by simp) ?_
    simp
    refine Out.wp.imp (cmps _ _ (sub1 3) (nd1 3) (sub2 3 3) (nd2 3 3)) fun x hx => ?_
    rw [hx]
    simp
    exact ⟨_, _, cmp_pm (rnd_pm (sub1 3) (nd1 3)) (rnd_pm (sub2 3 3) (nd2 3 3)), hp2, rfl⟩
  · subst e
    simp
    exact ⟨_, _, pr, hp2, rfl⟩
def genK (n : Nat) (r : List Int) (h : Nat → Nat) (k : Nat) : List Int := (idn n).map fun x => if x ∈ r.take k then r.getD (h (r.idxOf x)) 0 else x
theorem genK_len (n : Nat) (r : List Int) (h : Nat → Nat) (k : Nat) : (genK n r h k).length = n := by unfold genK; simp [idn_len]
theorem genK_get {n : Nat} {r : List Int} {h : Nat → Nat} {k i : Nat} (hi : i < n) : (genK n r h k).getD i 0 = if (i : Int) ∈ r.take k then r.getD (h (r.idxOf (i : Int))) 0 else (i : Int) := by
  unfold genK idn
  simp [List.getD_eq_getElem?_getD, hi]
theorem genK_step {n : Nat} {r : List Int} {h : Nat → Nat} (hr : Row n r) (nd : r.Nodup) {k : Nat} (hk : k < r.length) : (genK n r h k).set (r.getD k 0).toNat (r.getD (h k) 0) = genK n r h (k + 1) := by
  obtain ⟨p, ep, hp⟩ := hr.nat (getD_mem hk)
  refine ext_getD (by rw [List.length_set, genK_len, genK_len]) fun i hi => ?_
  rw [List.length_set, genK_len] at hi
  rw [genK_get hi, ep, Int.toNat_natCast]
  have htk : (i : Int) ∈ r.take (k + 1) ↔ (i : Int) ∈ r.take k ∨ i = p := by
    rw [List.take_succ, List.mem_append, List.getElem?_eq_getElem hk]
    have : r[k] = (p : Int) := by rw [← ep, List.getD_eq_getElem?_getD, List.getElem?_eq_getElem hk]; rfl
    rw [this, Option.toList_some, List.mem_singleton]
    exact or_congr Iff.rfl ⟨fun h => by omega, fun h => by rw [h]⟩
  by_cases q : i = p
  · subst q
    rw [if_pos (htk.mpr (.inr rfl)), List.getD_eq_getElem?_getD, List.getElem?_set_self (by rw [genK_len]; exact hi)]
    rw [← ep, idx_getD nd hk]; rfl
  · rw [List.getD_eq_getElem?_getD, List.getElem?_set_ne (Ne.symm q), ← List.getD_eq_getElem?_getD, genK_get hi]
    by_cases z : (i : Int) ∈ r.take k
    · rw [if_pos z, if_pos (htk.mpr (.inl z))]
    · rw [if_neg z, if_neg (fun y => (htk.mp y).elim z q)]
theorem genK_end {n : Nat} {r s : List Int} {h : Nat → Nat} (hs : ∀ i, i < r.length → s.getD i 0 = (h i : Nat)) : genK n r h r.length = ext n r s := by
  refine ext_getD (by rw [genK_len, ext_len]) fun i hi => ?_
  rw [genK_len] at hi
  rw [genK_get hi, List.take_length, ext_get hi]
  split
  · rename_i hm
    rw [hs _ (List.idxOf_lt_length_of_mem hm), Int.toNat_natCast]
  · rfl
def revl (m : Nat) : List Int := (List.range m).map fun i => ((m - 1 - i : Nat) : Int)
theorem revl_get {m i : Nat} (h : i < m) : (revl m).getD i 0 = (m - 1 - i : Nat) := by unfold revl; simp [List.getD_eq_getElem?_getD, h]
def swp (m : Nat) : List Int := (List.range m).map fun i => ((if i = 0 then 1 else if i = 1 then 0 else i : Nat) : Int)
theorem swp_get {m i : Nat} (h : i < m) : (swp m).getD i 0 = ((if i = 0 then 1 else if i = 1 then 0 else i : Nat) : Int) := by unfold swp; simp [List.getD_eq_getElem?_getD, h]
theorem rnd_two {n : Nat} {r : List Int} (nd : r.Nodup) (hl : 2 ≤ r.length) : rnd n (r.take 2) = ext n r (swp r.length) := by
  have hl2 : (r.take 2).length = 2 := by rw [List.length_take]; omega
  have nd2 : (r.take 2).Nodup := List.Nodup.sublist (List.take_sublist _ _) nd
  have ge : ∀ i, i < 2 → (r.take 2).getD i 0 = r.getD i 0 := fun i hi => by
    rw [List.getD_eq_getElem?_getD, List.getElem?_take_of_lt hi, List.getD_eq_getElem?_getD]
  unfold rnd
  refine ext_getD (by rw [ext_len, ext_len]) fun i hi => ?_
  rw [ext_len] at hi
  rw [ext_get hi, ext_get hi, hl2]
  by_cases h : (i : Int) ∈ r.take 2
  · rw [if_pos h, if_pos (List.mem_of_mem_take h)]
    have hx := List.idxOf_lt_length_of_mem h
    rw [hl2] at hx
    have e : r.idxOf (i : Int) = (r.take 2).idxOf (i : Int) := by
      have := getD_idx h
      rw [ge _ hx] at this
      have q := idx_getD nd (show (r.take 2).idxOf (i : Int) < r.length by omega)
      rwa [this] at q
    rw [e, rotl_get hx, swp_get (by omega), Int.toNat_natCast, Int.toNat_natCast, ge _ (Nat.mod_lt _ (by omega))]
    congr 1
    have : (r.take 2).idxOf (i : Int) = 0 ∨ (r.take 2).idxOf (i : Int) = 1 := by omega
    rcases this with q | q <;> rw [q] <;> rfl
  · rw [if_neg h]
    split
    · rename_i hm
      have hx := List.idxOf_lt_length_of_mem hm
      have h2 : ¬ r.idxOf (i : Int) < 2 := fun q => h (by
        have := getD_mem (b := r.take 2) (i := r.idxOf (i : Int)) (by rw [hl2]; exact q)
        rw [ge _ q, getD_idx hm] at this
        exact this)
      rw [swp_get hx, if_neg (by omega), if_neg (by omega), Int.toNat_natCast, getD_idx hm]
    · rfl
def pmB (m : Nat) (s : List Int) : Bool := decide (s.length = m) && (s.all fun x => decide (0 ≤ x) && decide (x < (m : Int))) && decide s.Nodup
theorem pmB_of {m : Nat} {s : List Int} (h : pmB m s = true) : Pm m s := by
  unfold pmB at h
  simp only [Bool.and_eq_true, decide_eq_true_eq, List.all_eq_true] at h
  exact ⟨h.1.1, fun x hx => h.1.2 x hx, h.2⟩
def grpB (m : Nat) (L ts : List (List Int)) : Bool := decide (L.length ≤ 24) && decide (idn m ∈ L) && (L.all (pmB m)) && (ts.all (pmB m)) && (L.all fun s => ts.all fun t => decide (cmp s t ∈ L))
theorem good_by {n : Nat} {row : List Int} (hr : Row n row) (nd : row.Nodup) {L ts : List (List Int)} (h : grpB row.length L ts = true) : Good n (ts.map (ext n row)) := by
  unfold grpB at h
  simp only [Bool.and_eq_true, decide_eq_true_eq, List.all_eq_true] at h
  obtain ⟨⟨⟨⟨h1, h2⟩, h3⟩, h4⟩, h5⟩ := h
  exact Good.rows hr nd h1 h2 (fun s hs => pmB_of (h3 s hs)) (fun t ht => pmB_of (h4 t ht)) fun s hs t ht => h5 s hs t ht
def LD (n : Nat) : List (List Int) := ((List.range n).map fun k => (List.range n).map fun i => (((i + k) % n : Nat) : Int)) ++ ((List.range n).map fun k => (List.range n).map fun i => (((n - 1 - i + k) % n : Nat) : Int))
theorem dih : ([2, 3, 4, 5, 6, 7, 8].all fun n => grpB n (LD n) [rotl n, revl n]) = true := by decide +kernel
/-- all orders of 0 .. m - 1 -/
def allP : Nat → List (List Int)
  | 0 => [[]]
  | m + 1 => (allP m).flatMap fun s => (List.range (m + 1)).map fun j => s.take j ++ [(m : Int)] ++ s.drop j
theorem sym : ([2, 3, 4].all fun n => grpB n (allP n) [swp n, rotl n]) = true := by decide +kernel
theorem dih_at {n : Nat} (h1 : 2 ≤ n) (h2 : n ≤ 8) : grpB n (LD n) [rotl n, revl n] = true := List.all_eq_true.mp dih n (by
  have : n = 2 ∨ n = 3 ∨ n = 4 ∨ n = 5 ∨ n = 6 ∨ n = 7 ∨ n = 8 := by omega
  rcases this with h | h | h | h | h | h | h <;> rw [h] <;> decide)
theorem sym_at {n : Nat} (h1 : 2 ≤ n) (h2 : n ≤ 4) : grpB n (allP n) [swp n, rotl n] = true := List.all_eq_true.mp sym n (by
  have : n = 2 ∨ n = 3 ∨ n = 4 := by omega
  rcases this with h | h | h <;> rw [h] <;> decide)
theorem revl_pm {n : Nat} (h1 : 2 ≤ n) (h2 : n ≤ 8) : Pm n (revl n) := by
  have := dih_at h1 h2
  unfold grpB at this
  simp only [Bool.and_eq_true, List.all_eq_true] at this
  exact pmB_of (this.1.2 _ (by simp))
end PyD

set_option Elab.async false
set_option linter.all false
set_option maxRecDepth 100000
set_option maxHeartbeats 1000000
namespace PyD
open PySem
/-- given changes of which few can be made -/
def Gv (n : Nat) (gs : List (List Int)) : Prop := (∀ g ∈ gs, Pm n g) ∧ Good n gs
def Gvn (n k : Nat) (x : D × List D) : Prop := ∃ (gs : List (List Int)) (p' : D), Gv n gs ∧ gs.length ≤ k ∧ Pool p' ∧ x = (.lst (gs.map tupI), [p'])
def BackI (n : Nat) (r : List Int) (p : D) (z2 : Option D) (todo : List D) (ρ : Env) : Prop := ∃ (k : Nat) (z : Option D), todo = ((List.range n).drop k).map (fun (i : Nat) => D.int i) ∧ k ≤ n ∧
  ρ = [some p, some (.int (n : Int)), z2, some (.lst (r.map .int)), some (.lst ((genK n r (fun i => n - 1 - i) k).map .int)), z]
theorem many_spec {p : D} {n : Nat} (hp : Pool p) (hn : 2 ≤ n) (hn2 : n ≤ 8) : (m_law_many_given [p, .int (n : Int)]).wp (Gvn n 2) no := by
  simp [m_law_many_given, b_law_many_given, chk, chkA, owIdx, md, ioOf, ioFrom, rgOk_nat (show n ≤ 16000000 by omega)]
  refine part_spec (j := 4) hp (by omega) (by omega) fun r p1 hr nd hl hp1 => ?_
  simp
  refine Out.wp.imp (take_spec hp1 (by omega) (by omega)) ?_
  intro x hx
  obtain ⟨t, p2, ex, ht, hp2⟩ := hx
  rw [ex]
  simp
  split
  · have c2 : cutD (r.map D.int) none (some 2) = (r.take 2).map .int := cut_int r 2
    simp [c2]
    refine rnd_spec (r := r.take 2) (by omega) (hr.sub fun x hx => List.mem_of_mem_take hx) (List.Nodup.sublist (List.take_sublist _ _) nd) (by simp) ?_
    simp
    refine rnd_spec (r := r) (by omega) hr nd rfl ?_
    simp
    have h2 : 2 ≤ r.length := by omega
    have e := good_by hr nd (sym_at h2 (by omega))
    refine ⟨[swp r.length, rotl r.length].map (ext n r), p2, ⟨fun g hg => ?_, e⟩, by simp, hp2, by simp [rnd_two nd h2]; rfl⟩
    simp only [List.map_cons, List.map_nil, List.mem_cons, List.not_mem_nil, or_false] at hg
    rcases hg with rfl | rfl
    · rw [← rnd_two nd h2]
      exact rnd_pm (hr.sub fun x hx => List.mem_of_mem_take hx) (List.Nodup.sublist (List.take_sublist _ _) nd)
    · exact rnd_pm hr nd
  · refine ⟨rgOk_nat (show n ≤ 16000000 by omega), ?_⟩
    refine row_spec (n := n) hp2 (by omega) fun m p3 hm hp3 => ?_
    have pm := Pm.of_perm hm
    simp [rgL_eq, rgOk_nat (show n ≤ 16000000 by omega)]
    rw [p_rng1 (by omega)]
    refine each_wp (I := BackI n m p3 (some (.lst (r.map .int)))) (fun d todo ρ hI => ?_) (fun ρ hI => ?_) _ _ ⟨0, none, rfl, Nat.zero_le _, by simp [genK]⟩
    · obtain ⟨k, z, h1, hk, rfl⟩ := hI
      obtain ⟨hk', rfl, h2⟩ := range_head hk h1
      have e2 : (m.map D.int)[n - 1 - k]? = some (.int (m.getD (n - 1 - k) 0)) := by
        have : n - 1 - k < m.length := by rw [pm.len]; omega
        simp [List.getD_eq_getElem?_getD, this]
      have e3 : (m.map D.int)[k]? = some (.int (m.getD k 0)) := by
        have : k < m.length := by rw [pm.len]; omega
        simp [List.getD_eq_getElem?_getD, this]
      have e4 : (n : Int) - 1 - (k : Int) = ((n - 1 - k : Nat) : Int) := by omega
      obtain ⟨q, eq, hq⟩ := pm.row.nat (getD_mem (i := k) (by rw [pm.len]; omega))
      simp [e4, p_ixL e2, p_ixL e3]
      have st := genK_step (h := fun i => n - 1 - i) pm.row pm.nd (k := k) (by rw [pm.len]; omega)
      rw [eq, Int.toNat_natCast] at st
      rw [List.getD_eq_getElem?_getD] at eq st
      rw [eq, p_stoL (by simp [genK_len]; exact hq), set_map, st]
      exact ⟨k + 1, _, h2, hk', rfl⟩
    · obtain ⟨k, z, h1, hk, rfl⟩ := hI
      have := range_end h1
      have : k = n := by omega
      subst this
      simp
      refine rnd_spec (r := m) (by omega) pm.row pm.nd rfl ?_
      simp
      have eg : genK k m (fun i => k - 1 - i) k = ext k m (revl k) := by
        have := genK_end (n := k) (r := m) (s := revl k) (h := fun i => k - 1 - i) fun i hi => revl_get (by rw [pm.len] at hi; exact hi)
        rwa [pm.len] at this
      have er : rnd k m = ext k m (rotl k) := by unfold rnd; rw [pm.len]
      have e := good_by pm.row pm.nd (L := LD k) (ts := [rotl k, revl k]) (by rw [pm.len]; exact dih_at hn hn2)
      refine ⟨[rotl k, revl k].map (ext k m), p3, ⟨fun g hg => ?_, e⟩, by simp, hp3, by simp [er, eg, tupI]⟩
      simp only [List.map_cons, List.map_nil, List.mem_cons, List.not_mem_nil, or_false] at hg
      rcases hg with rfl | rfl
      · rw [← er]; exact rnd_pm pm.row pm.nd
      · exact ext_pm pm.row pm.nd (by rw [pm.len]; exact revl_pm hn hn2)
theorem allOf.good {n : Nat} {gs : List (List Int)} {d : D} (h : allOf n gs d) : Good n gs := by
  obtain ⟨F, c, hl, _⟩ := h
  exact ⟨F, hl, fun f r => c.all (Nat.le_refl _) r⟩
theorem allOf.tup {n : Nat} {gs : List (List Int)} {d : D} (h : allOf n gs d) : isNon d = false := by
  obtain ⟨F, c, hl, rfl⟩ := h
  rfl
theorem Gv.perm {n : Nat} {a b : List (List Int)} (h : Gv n a) (p : b.Perm a) : Gv n b :=
  ⟨fun g hg => h.1 g (p.mem_iff.mp hg), h.2.of h.1 fun g hg => .inl (p.mem_iff.mp hg)⟩
def GivI (n : Nat) (todo : List D) (ρ : Env) : Prop := ∃ (gs : List (List Int)) (p : D) (z z' : Option D), Gv n gs ∧ gs.length ≤ 3 ∧ Pool p ∧ ρ = [some p, some (.int (n : Int)), some (.lst (gs.map tupI)), z, z']
theorem giv_step {n : Nat} (hn : 2 ≤ n) (hn2 : n ≤ 8) {kn : Env → Prop} {kr : D → Env → Prop} (d : D) (todo : List D) (ρ : Env) (hI : GivI n (d :: todo) ρ) :
    (M.gn 3 d ρ).wp (fun ρ1 => ((M.seq (M.asg 4 (M.call [.ow, .fz, .fz, .fz, .fz] [.ow, .fz] m_law_candidate (M.cons (M.ovar 0) (M.cons (M.ovar 1) (M.nil))))) (M.cond (M.and (M.bool (M.op2 ltO (M.oval (M.callB lenO2 (M.cons (M.ovar 2) (M.nil)))) (M.oval (M.cst (.int 3))))) (M.bool (M.op2 notNO (M.oval (M.call [.ow, .fz, .fz, .fz, .fz] [.fz, .an] m_law_closed (M.cons (M.ovar 1) (M.cons (M.oval (M.op2 addO (M.ovar 2) (M.oval (M.lst (M.cons (M.var 4) (M.nil)))))) (M.nil))))) (M.oval (M.cst .non))))) (M.asg 2 (M.op2 addO (M.ovar 2) (M.oval (M.lst (M.cons (M.var 4) (M.nil)))))) (M.skip))) ρ1).wp ⟨GivI n todo, kr, kn, GivI n todo, no⟩) no := by
  obtain ⟨gs, p, z, z', hg, hl, hp, rfl⟩ := hI
  simp [chk, chkA, owIdx, md]
  refine Out.wp.imp (cand_spec hp hn hn2) ?_
  intro x hx
  obtain ⟨r, p1, pr, hp1, ex⟩ := hx
  rw [ex]
  simp
  split
  · rename_i h3
    refine ⟨by omega, ?_⟩
    have e : gs.map tupI ++ [tupI r] = (gs ++ [r]).map tupI := by simp
    rw [e]
    refine Out.wp.imp (closed_spec (by omega) (by omega) (gs := gs ++ [r]) (fun g hg' => by
      rcases List.mem_append.mp hg' with q | q
      · exact hg.1 g q
      · rw [List.mem_singleton] at q; rw [q]; exact pr) (by simp; omega)) ?_
    intro x hx
    rcases hx.1 with q | q
    · rw [q]
      simp [isNon]
      exact ⟨gs, p1, _, _, hg, hl, hp1, rfl⟩
    · obtain ⟨dd, hd, e2⟩ := q
      rw [e2]
      simp [hd.tup]
      refine ⟨by omega, gs ++ [r], p1, some d, some (tupI r), ⟨fun g hg' => ?_, hd.good⟩, by simp; omega, hp1, by simp⟩
      rcases List.mem_append.mp hg' with q | q
      · exact hg.1 g q
      · rw [List.mem_singleton] at q; rw [q]; exact pr
  · exact ⟨gs, p1, _, _, hg, hl, hp1, rfl⟩
theorem giv_end {n : Nat} {gs : List (List Int)} {p : D} (hg : Gv n gs) (hl : gs.length ≤ 3) (hp : Pool p) {P : D × List D → Prop} (k : ∀ x, Gvn n 3 x → P x) : (m_law_some [p, .lst (gs.map tupI), .int 3]).wp P no := by
  refine Out.wp.imp (some_spec hp (by simp; omega) (.inl rfl) 3 (by omega)) ?_
  intro x hx
  obtain ⟨es, rest, p', ex, hP, hperm, hlen⟩ := hx
  rw [ex]
  have : rest = [] := by
    have := hperm.length_eq
    simp at this hlen
    exact List.length_eq_zero_iff.mp (by omega)
  subst this
  rw [List.append_nil] at hperm
  obtain ⟨m, rfl, hm⟩ := perm_pre (f := tupI) (g := unT) unT_tupI hperm
  exact k _ ⟨m, p', hg.perm hm, by rw [hm.length_eq]; exact hl, hP, rfl⟩
theorem given_spec {p : D} {n : Nat} (hp : Pool p) (hn : 2 ≤ n) (hn2 : n ≤ 8) : (m_law_given [p, .int (n : Int)]).wp (Gvn n 3) no := by
  have fin : ∀ {gs : List (List Int)} {p' : D}, Gv n gs → gs.length ≤ 3 → Pool p' → ∀ z z' : Option D, GivI n [] [some p', some (.int (n : Int)), some (.lst (gs.map tupI)), z, z'] := fun h1 h2 h3 z z' => ⟨_, _, z, z', h1, h2, h3, rfl⟩
  simp [m_law_given, b_law_given, chk, chkA, owIdx, md, ioOf, ioFrom]
  refine Out.wp.imp (take_spec hp (by omega) (by omega)) ?_
  intro x hx
  obtain ⟨t, p1, ex, ht, hp1⟩ := hx
  rw [ex]
  simp
  split
  · refine Out.wp.imp (many_spec hp1 hn hn2) ?_
    intro x hx
    obtain ⟨gs, p2, hg, hl, hp2, ex⟩ := hx
    rw [ex]
    simp
    refine Out.wp.imp (take_spec hp2 (by omega) (by omega)) ?_
    intro x hx
    obtain ⟨t2, p3, ex, ht2, hp3⟩ := hx
    rw [ex]
    simp
    rw [p_rng1 (by omega)]
    refine each_wp (I := GivI n) (fun d todo ρ hI => giv_step hn hn2 d todo ρ hI) (fun ρ hI => ?_) _ _ ⟨gs, p3, none, none, hg, by omega, hp3, rfl⟩
    obtain ⟨gs, p, z, z', hg, hl, hp, rfl⟩ := hI
    simp
    refine giv_end hg hl hp fun x hx => ?_
    obtain ⟨gs', p', h1, h2, h3, ex⟩ := hx
    rw [ex]
    simp
    exact ⟨gs', p', h1, h2, h3, rfl⟩
  · refine Out.wp.imp (take_spec hp1 (by omega) (by omega)) ?_
    intro x hx
    obtain ⟨t2, p3, ex, ht2, hp3⟩ := hx
    rw [ex]
    simp
    rw [p_rng1 (by omega)]
    refine each_wp (I := GivI n) (fun d todo ρ hI => giv_step hn hn2 d todo ρ hI) (fun ρ hI => ?_) _ _ ⟨[], p3, none, none, ⟨(fun g hg => nomatch hg), Good.nil n⟩, by simp, hp3, rfl⟩
    obtain ⟨gs, p, z, z', hg, hl, hp, rfl⟩ := hI
    simp
    refine giv_end hg hl hp fun x hx => ?_
    obtain ⟨gs', p', h1, h2, h3, ex⟩ := hx
    rw [ex]
    simp
    exact ⟨gs', p', h1, h2, h3, rfl⟩
theorem Gv.more {n : Nat} {a b : List (List Int)} (h : Gv n a) (hb : ∀ g ∈ b, g ∈ a ∨ g = idn n) : Gv n b :=
  ⟨fun g hg => (hb g hg).elim (h.1 g) fun e => e ▸ idn_pm n, h.2.of h.1 hb⟩
def insM : Env → SOut := M.seq (M.cond (M.and (M.bool (M.op2 ltO (M.oval (M.callB lenO2 (M.cons (M.ovar 2) (M.nil)))) (M.oval (M.cst (.int 3))))) (M.bool (M.op2 eqO (M.oval (M.call [.ow, .fz, .ow] [.ow, .an] (m_law_take 3) (M.cons (M.ovar 0) (M.cons (M.oval (M.cst (.int 4))) (M.nil))))) (M.oval (M.cst (.int 0)))))) (M.drop (M.met 2 insO (M.cons (M.call [.ow, .fz, .ow] [.ow, .an] (m_law_take 3) (M.cons (M.ovar 0) (M.cons (M.oval (M.op2 addO (M.oval (M.callB lenO2 (M.cons (M.ovar 2) (M.nil)))) (M.oval (M.cst (.int 1))))) (M.nil)))) (M.cons (M.rgT (M.var 1)) (M.nil))))) (M.skip)) (M.ret (M.var 2))
theorem ins_part {n : Nat} (hn : 2 ≤ n) (hn2 : n ≤ 8) {gs : List (List Int)} (hg : Gv n gs) (hl : gs.length ≤ 3) {p : D} (hp : Pool p) {K : Kt} (hK : K.x = no) (k : ∀ gs' p', Gv n gs' → gs'.length ≤ 3 → Pool p' → K.r (.lst (gs'.map tupI)) [some p', some (.int (n : Int)), some (.lst (gs'.map tupI))]) :
    (insM [some p, some (.int (n : Int)), some (.lst (gs.map tupI))]).wp K := by
  unfold insM
  obtain ⟨kn, kr, kb, kc, kx⟩ := K
  have hK : kx = no := hK
  subst hK
  simp [chk, chkA, owIdx, md]
  split
  · rename_i h3
    refine Out.wp.imp (take_spec hp (by omega) (by omega)) ?_
    intro x hx
    obtain ⟨t, p1, ex, ht, hp1⟩ := hx
    rw [ex]
    simp
    split
    · refine Out.wp.imp (take_spec hp1 (by omega) (by omega)) ?_
      intro x hx
      obtain ⟨j, p2, ex, hj, hp2⟩ := hx
      rw [ex]
      simp [rgOk_nat (show n ≤ 16000000 by omega), rgT_eq]
      refine ⟨by omega, ?_⟩
      have e : (gs.map tupI).take j ++ [tupI (idn n)] ++ (gs.map tupI).drop j = (gs.take j ++ [idn n] ++ gs.drop j).map tupI := by simp
      have := k (gs.take j ++ [idn n] ++ gs.drop j) p2 (hg.more fun g hg' => by
        simp only [List.mem_append, List.mem_singleton] at hg'
        rcases hg' with (q | q) | q
        · exact .inl (List.mem_of_mem_take q)
        · exact .inr q
        · exact .inl (List.mem_of_mem_drop q)) (by simp; omega) hp2
      simpa using this
    · exact k gs p1 hg hl hp1
  · exact k gs p hg hl hp
theorem keys_ints : ∀ a : List Int, keysOf (a.map D.int) = some (a.map NestedKey.num)
  | [] => by unfold keysOf; rfl
  | x :: a => by rw [List.map_cons]; unfold keysOf keyOf; rw [keys_ints a]; rfl
theorem key_tupI (a : List Int) : keyOf (tupI a) = some (.tup (a.map NestedKey.num)) := by unfold tupI keyOf; rw [keys_ints]; rfl
theorem num_inj : ∀ {a b : List Int}, a.map NestedKey.num = b.map NestedKey.num → a = b
  | [], [], _ => rfl
  | [], _ :: _, h => by cases h
  | _ :: _, [], h => by cases h
  | x :: a, y :: b, h => by
    rw [List.map_cons, List.map_cons] at h
    injection h with h1 h2
    injection h1 with h1
    rw [h1, num_inj h2]
theorem key_eq {a b : List Int} : keyOf (tupI a) = keyOf (tupI b) ↔ a = b := by
  rw [key_tupI, key_tupI]
  constructor
  · intro h
    injection h with h
    injection h with h
    exact num_inj h
  · intro h; rw [h]
theorem depth_num : ∀ a : List Int, NestedKey.depthAll (a.map NestedKey.num) = 0
  | [] => by simp [NestedKey.depthAll]
  | x :: a => by rw [List.map_cons]; simp [NestedKey.depthAll, NestedKey.depth, depth_num a]
theorem ok_tupI (a : List Int) : okKey (tupI a) = true := by
  unfold okKey
  rw [key_tupI]
  simp [NestedKey.depth, depth_num]
theorem dget_tup {a : List Int} : ∀ {K : List (List Int)} {vs : List D}, vs.length = K.length → (a ∈ K → ∃ v ∈ vs, dget (K.map tupI) vs (tupI a) = some v) ∧ (a ∉ K → dget (K.map tupI) vs (tupI a) = none)
  | [], [], _ => ⟨(fun h => nomatch h), fun _ => rfl⟩
  | [], _ :: _, h => by simp at h
  | _ :: _, [], h => by simp at h
  | k :: K, v :: vs, h => by
    obtain ⟨h1, h2⟩ := dget_tup (a := a) (K := K) (vs := vs) (by simpa using h)
    rw [List.map_cons]
    unfold dget
    by_cases e : k = a
    · subst e
      rw [if_pos rfl]
      exact ⟨fun _ => ⟨v, List.mem_cons_self, rfl⟩, fun q => absurd List.mem_cons_self q⟩
    · rw [if_neg (fun q => e (key_eq.mp q))]
      refine ⟨fun q => ?_, fun q => h2 fun z => q (List.mem_cons_of_mem _ z)⟩
      rcases List.mem_cons.mp q with z | z
      · exact absurd z.symm e
      · obtain ⟨w, hw, e2⟩ := h1 z
        exact ⟨w, List.mem_cons_of_mem _ hw, e2⟩
theorem p_notInD {a : List Int} {K : List (List Int)} {vs : List D} (h : vs.length = K.length) {P : D → Prop} {X : Exc → Prop} : (notInO2 (tupI a) (.dic (K.map tupI) vs)).wp P X = P (.bl (!decide (a ∈ K))) := by
  show (if okKey (tupI a) = true then Out.ok (D.bl (!(dget (K.map tupI) vs (tupI a)).isSome)) else .bad).wp P X = _
  rw [if_pos (ok_tupI a)]
  obtain ⟨h1, h2⟩ := dget_tup (a := a) h
  by_cases q : a ∈ K
  · obtain ⟨v, _, e⟩ := h1 q
    rw [e]; simp [q]
  · rw [h2 q]; simp [q]
theorem p_ixD {a : List Int} {K : List (List Int)} {vs : List D} (h : vs.length = K.length) (ha : a ∈ K) {P : D → Prop} {X : Exc → Prop} (k : ∀ v ∈ vs, P v) : (ixO2 (.dic (K.map tupI) vs) (tupI a)).wp P X := by
  show (if okKey (tupI a) = true then (match dget (K.map tupI) vs (tupI a) with | some v => Out.ok v | none => .bad) else .bad).wp P X
  rw [if_pos (ok_tupI a)]
  obtain ⟨v, hv, e⟩ := (dget_tup (a := a) h).1 ha
  rw [e]
  exact k v hv
end PyD

set_option Elab.async false
set_option linter.all false
set_option maxRecDepth 100000
set_option maxHeartbeats 1000000
namespace PyD
open PySem
theorem p_stoD {a : List Int} {K : List (List Int)} {vs : List D} (h : vs.length = K.length) (ha : a ∉ K) (hl : K.length < 100000) {v : D} {P : D → Prop} {X : Exc → Prop} : (stoO (.dic (K.map tupI) vs) (tupI a) v).wp P X = P (.dic ((K ++ [a]).map tupI) (vs ++ [v])) := by
  show (if okKey (tupI a) = true ∧ (K.map tupI).length < 100000 then Out.ok (D.dic (dputK (K.map tupI) vs (tupI a)) (dputV (K.map tupI) vs (tupI a) v)) else .bad).wp P X = _
  rw [if_pos ⟨ok_tupI a, by simpa using hl⟩]
  unfold dputK dputV
  rw [(dget_tup (a := a) h).2 ha]
  simp
theorem bls_true : ∀ l : List D, bls? (l.map fun _ => D.bl true) = some (l.map fun _ => true)
  | [] => rfl
  | d :: l => by
    rw [List.map_cons]
    unfold bls?
    rw [bls_true l]; rfl
theorem p_allT (l : List D) {P : D → Prop} {X : Exc → Prop} : (allO [.lst (l.map fun _ => D.bl true)]).wp P X = P (.bl true) := by
  unfold allO
  dsimp only
  rw [bls_true]
  dsimp only
  rw [wp_ok]
  congr 2
  simp
theorem isSeq.lenSet {n : Nat} {d : D} {r : List Int} (h : isSeq d r) (pr : Pm n r) (hn : n ≤ 1000) {P : D → Prop} {X : Exc → Prop} : (lenSetO d).wp P X = P (.int (n : Nat)) := by
  have e : (L2X.dd r).length = n := by
    rw [← pr.len]
    exact L2X.nodup_len (L2X.dd_nodup r) pr.nd fun k => L2X.mem_dd
  have go : (lenSetO d) = .ok (.int ((L2X.dd r).length : Nat)) := by
    unfold lenSetO
    rcases h with rfl | rfl
    · show (match ints? (r.map D.int) with | some ns => if ns.length ≤ 1000 then Out.ok (D.int ((L2X.dd ns).length : Nat)) else .bad | none => .bad) = _
      rw [ints?_all]
      dsimp only
      rw [if_pos (by rw [pr.len]; exact hn)]
    · show (match ints? (r.map D.int) with | some ns => if ns.length ≤ 1000 then Out.ok (D.int ((L2X.dd ns).length : Nat)) else .bad | none => .bad) = _
      rw [ints?_all]
      dsimp only
      rw [if_pos (by rw [pr.len]; exact hn)]
  rw [go, e]; rfl
theorem fault_spec {n : Nat} {d : D} {r : List Int} (h : isSeq d r) (pr : Pm n r) (hn : n ≤ 1000) : (m_fault_of [.int (n : Int), d]).wp (fun x => x = (.non, [])) no := by
  simp [m_fault_of, b_fault_of, h.len, pr.len, h.walk, M.wipeE]
  refine lc_pure (fun _ => D.bl true) (fun d => rfl) (fun x hx => ?_) (by simp [pr.len]; omega) ?_
  · obtain ⟨i, hi, rfl⟩ := List.mem_map.mp hx
    obtain ⟨j, rfl, hj⟩ := pr.row.nat hi
    simp [hj]
  · rw [p_allT]
    simp [M.back, h.lenSet pr hn, ioOf, ioFrom]
/-- the changes as they are passed -/
inductive Seqs : List D → List (List Int) → Prop
  | nil : Seqs [] []
  | cons {d : D} {r : List Int} {ds : List D} {gs : List (List Int)} : isSeq d r → Seqs ds gs → Seqs (d :: ds) (r :: gs)
theorem Seqs.len : ∀ {ds : List D} {gs : List (List Int)}, Seqs ds gs → ds.length = gs.length
  | _, _, .nil => rfl
  | _, _, .cons _ t => by rw [List.length_cons, List.length_cons, t.len]
theorem Seqs.mem {d : D} : ∀ {ds : List D} {gs : List (List Int)}, Seqs ds gs → d ∈ ds → ∃ r ∈ gs, isSeq d r
  | _, _, .cons h t, m => by
    rcases List.mem_cons.mp m with rfl | m
    · exact ⟨_, List.mem_cons_self, h⟩
    · obtain ⟨r, hr, e⟩ := t.mem m
      exact ⟨r, List.mem_cons_of_mem _ hr, e⟩
def toT : D → D
  | .lst ds => .tup ds
  | d => d
theorem isSeq.toT {d : D} {r : List Int} (h : isSeq d r) : PyD.toT d = tupI r := by rcases h with rfl | rfl <;> rfl
theorem Seqs.map : ∀ {ds : List D} {gs : List (List Int)}, Seqs ds gs → ds.map toT = gs.map tupI
  | _, _, .nil => rfl
  | _, _, .cons h t => by rw [List.map_cons, List.map_cons, h.toT, t.map]
def SetI (n : Nat) (dg : D) (gs : List (List Int)) (todo : List D) (ρ : Env) : Prop := ∃ (z1 z2 z3 : Option D), (∀ x ∈ todo, ∃ (i : Int) (d : D) (r : List Int), x = .tup [.int i, d] ∧ r ∈ gs ∧ isSeq d r) ∧ ρ = [some (.int (n : Int)), some dg, z1, z2, z3]
theorem settled_spec {n : Nat} (hn : 2 ≤ n) (hn2 : n ≤ 8) {ds : List D} {gs : List (List Int)} (hs : Seqs ds gs) (hg : ∀ g ∈ gs, Pm n g) (hl : gs.length ≤ 3) {dg : D} (hd : dg = .lst ds ∨ dg = .tup ds) : (m_settled_changes [.int (n : Int), dg]).wp (fun x => x = (.tup (gs.map tupI), [])) no := by
  have hlen := hs.len
  have hw : ∀ {P : List D → Prop} {X : Exc → Prop}, (walked dg).wp P X = P ds := by rcases hd with rfl | rfl <;> (intro P X; rfl)
  have hL : ∀ {P : D → Prop} {X : Exc → Prop}, (lenO2 [dg]).wp P X = P (.int ds.length) := by rcases hd with rfl | rfl <;> (intro P X; rfl)
  simp [m_settled_changes, b_settled_changes, hw, hL, hlen]
  have h2 : (2 : Int) ≤ n := by omega
  have h8 : (n : Int) ≤ 8 := by omega
  have h3 : ¬ (3 : Int) < gs.length := by omega
  simp [h2, h8, h3]
  refine ⟨by omega, ?_⟩
  refine each_wp (I := SetI n dg gs) (fun x todo ρ hI => ?_) (fun ρ hI => ?_) _ _ ⟨none, none, none, fun x hx => ?_, rfl⟩
  · obtain ⟨z1, z2, z3, h, rfl⟩ := hI
    obtain ⟨i, d, r, rfl, hr, hq⟩ := h x List.mem_cons_self
    simp [chk, chkA, owIdx, md]
    refine Out.wp.imp (fault_spec hq (hg r hr) (by omega)) ?_
    intro y hy
    rw [hy]
    simp [isNon]
    exact ⟨_, _, _, fun x hx => h x (List.mem_cons_of_mem _ hx), rfl⟩
  · obtain ⟨z1, z2, z3, h, rfl⟩ := hI
    simp [hw, M.wipeE]
    refine lc_pure toT (fun d => rfl) (fun d hd' => ?_) (by omega) ?_
    · obtain ⟨r, hr, hq⟩ := hs.mem hd'
      simp [hq.tup, hq.toT]
    · simp [M.back, ioOf, ioFrom, hs.map]
  · unfold enD at hx
    obtain ⟨q, hq, rfl⟩ := List.mem_map.mp hx
    obtain ⟨r, hr, e⟩ := hs.mem (List.fst_mem_of_mem_zipIdx hq)
    exact ⟨_, _, r, rfl, hr, e⟩
def enF : List D → Nat → List D
  | [], _ => []
  | d :: ds, k => .tup [.int (k : Nat), d] :: enF ds (k + 1)
theorem enD_at : ∀ (ds : List D) (k : Nat), (ds.zipIdx k).map (fun q => D.tup [.int (q.2 : Nat), q.1]) = enF ds k
  | [], _ => rfl
  | d :: ds, k => by
    rw [List.zipIdx_cons, List.map_cons, enD_at ds (k + 1)]; rfl
theorem enD_eq (ds : List D) : enD ds = enF ds 0 := enD_at ds 0
structure Wq (n : Nat) (gs K : List (List Int)) (vs : List D) (P : List Int → Prop) : Prop where
  nd : K.Nodup
  reach : ∀ f ∈ K, Reach n gs f
  one : idn n ∈ K
  closed : ∀ f ∈ K, P f → ∀ g ∈ gs, cmp f g ∈ K
  len : vs.length = K.length
  vals : ∀ v ∈ vs, ∃ l, v = D.tup l ∧ l.length ≤ K.length
theorem Wq.le {n : Nat} {gs K : List (List Int)} {vs : List D} {P : List Int → Prop} (w : Wq n gs K vs P) (g : Good n gs) : K.length ≤ 24 := by
  obtain ⟨F, h1, h2⟩ := g
  have := nodup_le w.nd fun f hf => h2 f (w.reach f hf)
  omega
theorem Wq.all {n : Nat} {gs K : List (List Int)} {vs : List D} {P : List Int → Prop} (w : Wq n gs K vs P) (hP : ∀ f, P f) {f : List Int} (r : Reach n gs f) : f ∈ K := by
  induction r with
  | one => exact w.one
  | mul _ hg ih => exact w.closed _ ih (hP _) _ hg
theorem Wq.add {n : Nat} {gs K : List (List Int)} {vs : List D} {P Q : List Int → Prop} (w : Wq n gs K vs P) {f : List Int} (h : f ∉ K) (r : Reach n gs f) {l : List D} (hl : l.length ≤ K.length + 1) (hq : ∀ x, Q x → x ≠ f ∧ P x) : Wq n gs (K ++ [f]) (vs ++ [.tup l]) Q where
  nd := by
    rw [List.nodup_append]
    exact ⟨w.nd, by simp, fun a ha b hb e => h (by rw [List.mem_singleton] at hb; rw [← hb, ← e]; exact ha)⟩
  reach := fun x hx => by
    rcases List.mem_append.mp hx with hx | hx
    · exact w.reach x hx
    · rw [List.mem_singleton] at hx; rw [hx]; exact r
  one := List.mem_append_left _ w.one
  closed := fun x hx q g hg => by
    rcases List.mem_append.mp hx with hx | hx
    · exact List.mem_append_left _ (w.closed x hx (hq x q).2 g hg)
    · rw [List.mem_singleton] at hx; exact absurd hx (hq x q).1
  len := by simp [w.len]
  vals := fun v hv => by
    rcases List.mem_append.mp hv with hv | hv
    · obtain ⟨l, e, h⟩ := w.vals v hv
      exact ⟨l, e, by rw [List.length_append]; simp; omega⟩
    · rw [List.mem_singleton] at hv
      exact ⟨l, hv, by rw [List.length_append]; simpa using hl⟩
def WsOut (n : Nat) (gs : List (List Int)) (k : Nat) (ρ : Env) : Prop := ∃ (K W : List (List Int)) (vs : List D) (z4 z5 z6 z7 : Option D),
  ρ = [some (.int (n : Int)), some (.tup (gs.map tupI)), some (.dic (K.map tupI) vs), some (.lst (W.map tupI)), z4, z5, z6, z7] ∧ Wq n gs K vs (fun f => f ∉ W) ∧ (∀ f ∈ W, f ∈ K) ∧ k + K.length = 24 + W.length ∧ k ≤ 24
def WsIn (n : Nat) (gs : List (List Int)) (k : Nat) (c : List Int) (rest : List D) (ρ : Env) : Prop := ∃ (pre post K W : List (List Int)) (vs : List D) (z5 z6 z7 : Option D),
  gs = pre ++ post ∧ rest = enF (post.map tupI) pre.length ∧
  ρ = [some (.int (n : Int)), some (.tup (gs.map tupI)), some (.dic (K.map tupI) vs), some (.lst (W.map tupI)), some (tupI c), z5, z6, z7] ∧ Wq n gs K vs (fun f => f ∉ W ∧ f ≠ c) ∧ (∀ f ∈ W, f ∈ K) ∧ c ∈ K ∧ (∀ g ∈ pre, cmp c g ∈ K) ∧ k + K.length = 24 + W.length + 1 ∧ k ≤ 24
def WsEnd (n : Nat) (gs : List (List Int)) (x : D × List D) : Prop := ∃ (K : List (List Int)) (vs : List D), x = (.dic (K.map tupI) vs, []) ∧ Wq n gs K vs (fun _ => True)
theorem ways_spec {n : Nat} (hn : 2 ≤ n) (hn2 : n ≤ 8) {gs : List (List Int)} (hg : ∀ g ∈ gs, Pm n g) (hgl : gs.length ≤ 10) (good : Good n gs) : (m_ways [.int (n : Int), .tup (gs.map tupI)]).wp (WsEnd n gs) no := by
  simp [m_ways, b_ways, chk, chkA, owIdx, md, ioOf, ioFrom]
  refine Out.wp.imp (unmoved_spec (by omega)) fun x hx => ?_
  rw [hx]
  simp
  have d1 : dispO [(tupI (idn n), D.tup [])] = .ok (.dic [tupI (idn n)] [.tup []]) := by
    unfold dispO
    rw [if_pos ⟨by simp, by simp [ok_tupI]⟩]
    rfl
  rw [d1]
  simp
  refine Out.wp.imp (unmoved_spec (by omega)) fun x hx => ?_
  rw [hx]
  simp
  refine loop_wp (WsOut n gs) (fun k ρ hI => ?_) 30 24 _ (by omega) ⟨[idn n], [idn n], [.tup []], none, none, none, none, rfl, ⟨by simp, fun f hf => by rw [List.mem_singleton] at hf; rw [hf]; exact .one, by simp, fun f hf q => absurd hf q, rfl, fun v hv => ⟨[], by simpa using hv, by simp⟩⟩, fun f hf => hf, by simp, by omega⟩
  obtain ⟨K, W, vs, z4, z5, z6, z7, rfl, w, sub, hk⟩ := hI
  simp
  cases W with
  | nil =>
    simp
    exact ⟨K, vs, rfl, ⟨w.nd, w.reach, w.one, fun f hf _ => w.closed f hf (by simp), w.len, w.vals⟩⟩
  | cons c W =>
    simp [enD_eq]
    refine each_wp (I := WsIn n gs (k) c) (fun d rest ρ hI => ?_) (fun ρ hI => ?_) _ _ ⟨[], gs, K, W, vs, _, _, _, rfl, rfl, rfl, ⟨w.nd, w.reach, w.one, fun f hf q => w.closed f hf (by simp; exact ⟨q.2, q.1⟩), w.len, w.vals⟩, fun f hf => sub f (List.mem_cons_of_mem _ hf), sub c List.mem_cons_self, (fun _ h => nomatch h), by simp at hk; omega, by omega⟩
    · obtain ⟨pre, post, K, W, vs, z5, z6, z7, e1, e2, rfl, w, sub, hc, hpre, hk⟩ := hI
      cases post with
      | nil => cases e2
      | cons g post =>
        rw [List.map_cons] at e2
        unfold enF at e2
        injection e2 with e2 e3
        subst e2 e3
        have hgm : g ∈ gs := by rw [e1]; simp
        have pg := hg g hgm
        have pf := (w.reach c hc).pm hg
        have hpl : pre.length + 1 ≤ gs.length := by rw [e1]; simp
        simp [chk, chkA, owIdx, md]
        refine Out.wp.imp (composed_spec (.inl rfl) (.inl rfl) (by rw [pg.len]; exact pf.row) (by rw [pf.len]; omega)) fun r hr => ?_
        rw [hr]
        simp [p_notInD w.len]
        by_cases hm : cmp c g ∈ K
        · rw [if_pos hm]
          refine ⟨pre ++ [g], post, K, W, vs, _, _, _, by rw [e1]; simp, by simp, rfl, w, sub, hc, fun g' hg' => ?_, hk⟩
          rcases List.mem_append.mp hg' with q | q
          · exact hpre g' q
          · rw [List.mem_singleton] at q; rw [q]; exact hm
        · rw [if_neg hm]
          have hK := w.le good
          have rc := Reach.mul (w.reach c hc) hgm
          have w2 : ∀ l : List D, l.length ≤ K.length + 1 → Wq n gs (K ++ [cmp c g]) (vs ++ [.tup l]) (fun f => f ∉ W ++ [cmp c g] ∧ f ≠ c) := fun l hl => w.add hm rc hl fun x hx => by
            simp at hx
            exact ⟨hx.1.2, hx.1.1, hx.2⟩
          have h24 := (w2 [] (by simp)).le good
          rw [List.length_append, List.length_singleton] at h24
          have hk' : ¬ ((K.length : Int) = 24) := by omega
          simp [hk']
          refine p_ixD w.len hc fun v hv => ?_
          obtain ⟨l, rfl, hl⟩ := w.vals v hv
          simp
          refine ⟨by omega, ?_⟩
          rw [p_stoD w.len hm (by omega)]
          simp
          refine ⟨by omega, pre ++ [g], post, K ++ [cmp c g], W ++ [cmp c g], _, some (.int (pre.length : Nat)), some (tupI g), some (tupI (cmp c g)), by rw [e1]; simp, by simp, by simp; rfl, w2 _ (by simp; omega), fun f hf => ?_, List.mem_append_left _ hc, fun g' hg' => ?_, by simp; omega, by omega⟩
          · rcases List.mem_append.mp hf with q | q
            · exact List.mem_append_left _ (sub f q)
            · exact List.mem_append_right _ q
          · rcases List.mem_append.mp hg' with q | q
            · exact List.mem_append_left _ (hpre g' q)
            · rw [List.mem_singleton] at q; rw [q]; simp
    · obtain ⟨pre, post, K, W, vs, z5, z6, z7, e1, e2, rfl, w, sub, hc, hpre, hk⟩ := hI
      have : post = [] := by
        cases post with
        | nil => rfl
        | cons a b => cases e2
      subst this
      rw [List.append_nil] at e1
      subst e1
      have hK := w.le good
      exact ⟨k - 1, by omega, K, W, vs, _, _, _, _, rfl, ⟨w.nd, w.reach, w.one, fun f hf q g hg' => by
        by_cases e : f = c
        · rw [e]; exact hpre g hg'
        · exact w.closed f hf ⟨q, e⟩ g hg', w.len, w.vals⟩, sub, by omega, by omega⟩
theorem Reach.sub {n : Nat} {gs hs : List (List Int)} (h : ∀ g ∈ gs, g ∈ hs) {f : List Int} (r : Reach n gs f) : Reach n hs f := by
  induction r with
  | one => exact .one
  | mul _ hg ih => exact .mul ih (h _ hg)
theorem Good.same {n : Nat} {gs hs : List (List Int)} (h : ∀ g ∈ gs, g ∈ hs) (k : Good n hs) : Good n gs := by
  obtain ⟨F, h1, h2⟩ := k
  exact ⟨F, h1, fun f r => h2 f (r.sub h)⟩
inductive All2 (R : D → D → Prop) : List D → List D → Prop
  | nil : All2 R [] []
  | cons {d e : D} {ds es : List D} : R d e → All2 R ds es → All2 R (d :: ds) (e :: es)
theorem All2.snoc {R : D → D → Prop} {d e : D} : ∀ {ds es : List D}, All2 R ds es → R d e → All2 R (ds ++ [d]) (es ++ [e])
  | _, _, .nil, r => .cons r .nil
  | _, _, .cons h t, r => .cons h (t.snoc r)
def Shp (R : D → D → Prop) (d : D) (x : D × List D) : Prop := ∃ d' p', x = (d', [p']) ∧ Pool p' ∧ R d d'
def Shps (R : D → D → Prop) (ds : List D) (x : D × List D) : Prop := ∃ ds' p', Pool p' ∧ All2 R ds ds' ∧ (x = (.lst ds', [p']) ∨ x = (.tup ds', [p']))
end PyD

set_option Elab.async false
set_option linter.all false
set_option maxRecDepth 100000
set_option maxHeartbeats 1000000
namespace PyD
open PySem
theorem shaped_int {p : D} (hp : Pool p) (i : Int) (k : Nat) : (m_law_shaped (k + 1) [p, .int i]).wp (Shp (fun d e => e = d) (.int i)) no := by
  simp [m_law_shaped, b_law_shaped, chk, chkA, owIdx, md, ioOf, ioFrom, isD]
  exact ⟨_, _, rfl, hp, rfl⟩
def ShI (R : D → D → Prop) (dg : D) (ds : List D) (rest acc : List D) (ρ : Env) : Prop := ∃ (pre : List D) (p : D), ds = pre ++ rest ∧ All2 R pre acc ∧ acc.length = pre.length ∧ Pool p ∧ ρ = [some p, some dg, none, none]
theorem shaped_list {R : D → D → Prop} {k : Nat} {ds : List D} (h : ∀ d ∈ ds, ∀ p, Pool p → (m_law_shaped k [p, d]).wp (Shp R d) no) (hl : ds.length ≤ 1000) {p : D} (hp : Pool p) {dg : D} (hd : dg = .lst ds ∨ dg = .tup ds) : (m_law_shaped (k + 1) [p, dg]).wp (Shps R ds) no := by
  have key : ∀ (dg : D) (P : List D × Env → Prop), (∀ acc p', Pool p' → All2 R ds acc → acc.length = ds.length → P (acc, [some p', some dg, none, none])) → (M.lcAux (M.gn 3) M.yes (M.call [.ow, .fz, .fz, .fz] [.ow, .fz] (m_law_shaped k) (M.cons (M.ovar 0) (M.cons (M.ovar 3) M.nil))) [3] ds [] [some p, some dg, none, none]).wp P no := fun dg P hP => by
    refine lcAux_wp (I := ShI R dg ds) (fun d rest acc ρ hI => ?_) (fun acc ρ hI => ?_) ds [] _ ⟨[], p, rfl, .nil, rfl, hp, rfl⟩
    · obtain ⟨pre, p, e1, ha, hlen, hp, rfl⟩ := hI
      simp [chk, chkA, owIdx, md]
      refine Out.wp.imp (h d (by rw [e1]; simp) p hp) fun x hx => ?_
      obtain ⟨d', p', rfl, hp', r⟩ := hx
      simp [M.wipeE]
      have : pre.length ≤ ds.length := by rw [e1]; simp
      exact ⟨by omega, pre ++ [d], p', by rw [e1]; simp, ha.snoc r, by simp [hlen], hp', rfl⟩
    · obtain ⟨pre, p, e1, ha, hlen, hp, rfl⟩ := hI
      rw [List.append_nil] at e1
      subst e1
      exact hP acc p hp ha hlen
  rcases hd with rfl | rfl
  · simp [m_law_shaped, b_law_shaped, chk, chkA, owIdx, md, ioOf, ioFrom, M.wipeE]
    refine key _ _ fun acc p' hp' ha hlen => ?_
    simp [M.back]
    refine Out.wp.imp (take_spec hp' (by omega) (by omega)) fun x hx => ?_
    obtain ⟨t, p2, ex, ht, hp2⟩ := hx
    rw [ex]
    simp
    split
    · exact ⟨acc, p2, hp2, ha, .inl rfl⟩
    · exact ⟨acc, p2, hp2, ha, .inr rfl⟩
  · simp [m_law_shaped, b_law_shaped, chk, chkA, owIdx, md, ioOf, ioFrom, M.wipeE]
    refine key _ _ fun acc p' hp' ha hlen => ?_
    simp [M.back]
    refine Out.wp.imp (take_spec hp' (by omega) (by omega)) fun x hx => ?_
    obtain ⟨t, p2, ex, ht, hp2⟩ := hx
    rw [ex]
    simp
    split
    · exact ⟨acc, p2, hp2, ha, .inl rfl⟩
    · exact ⟨acc, p2, hp2, ha, .inr rfl⟩
theorem all2_ints : ∀ {r : List Int} {es : List D}, All2 (fun d e => e = d) (r.map .int) es → es = r.map .int
  | [], _, .nil => rfl
  | x :: r, _, .cons h t => by rw [h, all2_ints t]; rfl
theorem shaped_row {r : List Int} (hl : r.length ≤ 1000) {p : D} (hp : Pool p) (k : Nat) {d : D} (hd : isSeq d r) : (m_law_shaped (k + 2) [p, d]).wp (fun x => ∃ d' p', x = (d', [p']) ∧ Pool p' ∧ isSeq d' r) no := by
  refine Out.wp.imp (shaped_list (R := fun d e => e = d) (k := k + 1) (ds := r.map .int) (fun d hd p hp => ?_) (by simpa using hl) hp (by rcases hd with rfl | rfl <;> simp [tupI])) fun x hx => ?_
  · obtain ⟨i, _, rfl⟩ := List.mem_map.mp hd
    exact shaped_int hp i k
  · obtain ⟨ds', p', hp', ha, e⟩ := hx
    have := all2_ints ha
    subst this
    rcases e with rfl | rfl
    · exact ⟨_, _, rfl, hp', by simp [isSeq]⟩
    · exact ⟨_, _, rfl, hp', by simp [isSeq, tupI]⟩
theorem all2_seqs : ∀ {gs : List (List Int)} {es : List D}, All2 (fun d e => ∃ r, d = tupI r ∧ isSeq e r) (gs.map tupI) es → Seqs es gs
  | [], _, .nil => .nil
  | g :: gs, _, .cons h t => by
    obtain ⟨r, e, h⟩ := h
    have : g = r := by
      have := (key_eq (a := g) (b := r)).mp (by rw [e])
      exact this
    subst this
    exact .cons h (all2_seqs t)
theorem shaped_rows {gs : List (List Int)} (hl : gs.length ≤ 1000) (hg : ∀ g ∈ gs, g.length ≤ 1000) {p : D} (hp : Pool p) (k : Nat) : (m_law_shaped (k + 3) [p, .lst (gs.map tupI)]).wp (fun x => ∃ ds dg p', x = (dg, [p']) ∧ Pool p' ∧ (dg = .lst ds ∨ dg = .tup ds) ∧ Seqs ds gs) no := by
  refine Out.wp.imp (shaped_list (R := fun d e => ∃ r, d = tupI r ∧ isSeq e r) (k := k + 2) (ds := gs.map tupI) (fun d hd p hp => ?_) (by simpa using hl) hp (.inl rfl)) fun x hx => ?_
  · obtain ⟨g, hg', rfl⟩ := List.mem_map.mp hd
    refine Out.wp.imp (shaped_row (hg g hg') hp k (.inl rfl)) fun x hx => ?_
    obtain ⟨d', p', rfl, hp', e⟩ := hx
    exact ⟨_, _, rfl, hp', _, rfl, e⟩
  · obtain ⟨ds', p', hp', ha, e⟩ := hx
    rcases e with rfl | rfl
    · exact ⟨_, _, _, rfl, hp', .inl rfl, all2_seqs ha⟩
    · exact ⟨_, _, _, rfl, hp', .inr rfl, all2_seqs ha⟩
def Yes (x : D × List D) : Prop := x = (.bl true, [])
theorem same_int (i : Int) (k : Nat) : (m_law_same (k + 1) [.int i, .int i]).wp Yes no := by
  simp [m_law_same, b_law_same, chk, chkA, owIdx, md, ioOf, ioFrom, m_law_is_integer, b_law_is_integer]
  exact rfl
theorem same_tup {ds : List D} {k : Nat} (h : ∀ d ∈ ds, (m_law_same k [d, d]).wp Yes no) (hl : ds.length ≤ 1000) : (m_law_same (k + 1) [.tup ds, .tup ds]).wp Yes no := by
  simp [m_law_same, b_law_same, chk, chkA, owIdx, md, ioOf, ioFrom, p_rng1 (n := ds.length) (by omega), M.wipeE]
  refine lc_pure (fun _ => D.bl true) (fun d => rfl) (fun x hx => ?_) (by simp; omega) ?_
  · obtain ⟨i, hi, rfl⟩ := List.mem_map.mp hx
    have hi := List.mem_range.mp hi
    simp [p_ixT (List.getElem?_eq_getElem hi), chk, chkA, owIdx, md]
    refine Out.wp.imp (h _ (List.getElem_mem hi)) fun x hx => ?_
    rw [show x = _ from hx]
  · rw [p_allT]
    exact rfl
theorem same_row (r : List Int) (hl : r.length ≤ 1000) (k : Nat) : (m_law_same (k + 2) [tupI r, tupI r]).wp Yes no := same_tup (fun d hd => by
  obtain ⟨i, _, rfl⟩ := List.mem_map.mp hd
  exact same_int i k) (by simpa using hl)
theorem same_rows (F : List (List Int)) (hF : F.length ≤ 1000) (hl : ∀ r ∈ F, r.length ≤ 1000) (k : Nat) : (m_law_same (k + 3) [.tup (F.map tupI), .tup (F.map tupI)]).wp Yes no := same_tup (fun d hd => by
  obtain ⟨r, hr, rfl⟩ := List.mem_map.mp hd
  exact same_row r (hl r hr) k) (by simpa using hF)
def gI (n : Nat) (r : List Int) (k : Nat) : List Int := (List.range n).map fun (i : Nat) => if r.idxOf (i : Int) < k then (r.idxOf (i : Int) : Int) else 0
def inv (n : Nat) (r : List Int) : List Int := (List.range n).map fun (i : Nat) => (r.idxOf (i : Int) : Int)
theorem gI_len (n : Nat) (r : List Int) (k : Nat) : (gI n r k).length = n := by unfold gI; simp
theorem gI_step {n : Nat} {r : List Int} (nd : r.Nodup) {k j : Nat} (hk : k < r.length) (e : r.getD k 0 = (j : Int)) : (gI n r k).set j (k : Int) = gI n r (k + 1) := by
  have ej : r.idxOf (j : Int) = k := by rw [← e]; exact idx_getD nd hk
  refine List.ext_getElem (by simp [gI]) fun i h1 h2 => ?_
  rw [gI_len] at h2
  by_cases q : j = i
  · subst q
    rw [List.getElem_set_self]
    simp [gI, ej]
  · rw [List.getElem_set_ne q]
    simp only [gI, List.getElem_map, List.getElem_range]
    have : r.idxOf (i : Int) ≠ k := fun z => by
      have := getD_idx (row := r) (x := (i : Int)) (List.idxOf_lt_length_iff.mp (by rw [z]; exact hk))
      rw [z, e] at this
      omega
    by_cases w : r.idxOf (i : Int) < k
    · rw [if_pos w, if_pos (by omega)]
    · rw [if_neg w, if_neg (by omega)]
theorem find_idx (y : Int) : ∀ {r : List Int}, y ∈ r → (r.map D.int).findIdx? (fun z => eqD z (.int y)) = some (r.idxOf y)
  | x :: r, h => by
    rw [List.map_cons, List.findIdx?_cons, List.idxOf_cons]
    have : eqD (.int x) (.int y) = (x == y) := rfl
    rw [this]
    by_cases q : x = y
    · subst q; simp
    · rcases List.mem_cons.mp h with z | z
      · exact absurd z.symm q
      · rw [find_idx y z]
        have : (x == y) = false := by simpa using q
        rw [this]; rfl
def InvI (n : Nat) (d : D) (r : List Int) (rest : List D) (ρ : Env) : Prop := ∃ (pre post : List Int) (z2 z3 : Option D), r = pre ++ post ∧ rest = enF (post.map .int) pre.length ∧ ρ = [some d, some (.lst ((gI n r pre.length).map .int)), z2, z3]
def pw (n : Nat) (c : List Int) : Nat → List Int
  | 0 => idn n
  | m + 1 => cmp (pw n c m) c
def stp (c : List Int) (i : Nat) : Nat := (c.getD i 0).toNat
def itr (c : List Int) : Nat → Nat → Nat
  | 0, i => i
  | m + 1, i => stp c (itr c m i)
theorem pw_pm {n : Nat} {c : List Int} (h : Pm n c) : ∀ m, Pm n (pw n c m)
  | 0 => idn_pm n
  | m + 1 => cmp_pm (pw_pm h m) h
theorem stp_lt {n : Nat} {c : List Int} (h : Pm n c) {i : Nat} (hi : i < n) : stp c i < n ∧ c.getD i 0 = (stp c i : Int) := by
  obtain ⟨j, e, hj⟩ := h.row.nat (getD_mem (i := i) (by rw [h.len]; exact hi))
  unfold stp
  rw [e]
  simp; exact hj
theorem itr_lt {n : Nat} {c : List Int} (h : Pm n c) {i : Nat} (hi : i < n) : ∀ m, itr c m i < n
  | 0 => hi
  | m + 1 => (stp_lt h (itr_lt h hi m)).1
theorem pw_get {n : Nat} {c : List Int} (h : Pm n c) {i : Nat} (hi : i < n) : ∀ m, (pw n c m).getD i 0 = (itr c m i : Int)
  | 0 => idn_get hi
  | m + 1 => by
    have e := pw_get h hi m
    have q : (cmp (pw n c m) c).getD i 0 = c.getD ((pw n c m).getD i 0).toNat 0 := by
      have hl : i < (pw n c m).length := by rw [(pw_pm h m).len]; exact hi
      unfold cmp
      simp only [List.getD_eq_getElem?_getD, List.getElem?_map, List.getElem?_eq_getElem hl]
      rfl
    show (cmp (pw n c m) c).getD i 0 = _
    rw [q, e, Int.toNat_natCast]
    exact (stp_lt h (itr_lt h hi m)).2
theorem stp_inj {n : Nat} {c : List Int} (h : Pm n c) {i j : Nat} (hi : i < n) (hj : j < n) (e : stp c i = stp c j) : i = j :=
  getD_inj h.nd (by rw [h.len]; exact hi) (by rw [h.len]; exact hj) (by rw [(stp_lt h hi).2, (stp_lt h hj).2, e])
theorem itr_add (c : List Int) (a : Nat) : ∀ (b i : Nat), itr c (a + b) i = itr c b (itr c a i)
  | 0, i => rfl
  | b + 1, i => by
    show stp c (itr c (a + b) i) = stp c (itr c b (itr c a i))
    rw [itr_add c a b i]
theorem itr_cancel {n : Nat} {c : List Int} (h : Pm n c) {i : Nat} (hi : i < n) (d : Nat) : ∀ a, itr c (d + a) i = itr c a i → itr c d i = i
  | 0, e => e
  | a + 1, e => itr_cancel h hi d a (stp_inj h (itr_lt h hi _) (itr_lt h hi _) e)
theorem itr_mul {c : List Int} {d i : Nat} (h : itr c d i = i) : ∀ q, itr c (d * q) i = i
  | 0 => rfl
  | q + 1 => by rw [Nat.mul_succ, Nat.add_comm, itr_add, h, itr_mul h q]
theorem itr_back {n : Nat} {c : List Int} (h : Pm n c) (hn : n ≤ 8) {i : Nat} (hi : i < n) : ∃ d, 1 ≤ d ∧ d ≤ 8 ∧ itr c d i = i := by
  apply Classical.byContradiction
  intro no
  have nd : ((List.range 9).map fun m => (itr c m i : Int)).Nodup := by
    refine map_nodup List.nodup_range fun x hx y hy e => ?_
    have hx := List.mem_range.mp hx
    have hy := List.mem_range.mp hy
    have e : itr c x i = itr c y i := by omega
    rcases Nat.lt_trichotomy x y with q | q | q
    · exact absurd ⟨y - x, by omega, by omega, itr_cancel h hi (y - x) x (by rw [show y - x + x = y by omega, e])⟩ no
    · exact q
    · exact absurd ⟨x - y, by omega, by omega, itr_cancel h hi (x - y) y (by rw [show x - y + y = x by omega, e])⟩ no
  have := nodup_le (m := idn n) nd fun x hx => by
    obtain ⟨m, _, rfl⟩ := List.mem_map.mp hx
    exact List.mem_map.mpr ⟨_, List.mem_range.mpr (itr_lt h hi m), rfl⟩
  rw [idn_len] at this
  simp at this
  omega
theorem pw_840 {n : Nat} {c : List Int} (h : Pm n c) (hn : n ≤ 8) : pw n c 840 = idn n := by
  refine List.ext_getElem (by rw [(pw_pm h 840).len, idn_len]) fun i h1 h2 => ?_
  rw [idn_len] at h2
  obtain ⟨d, d1, d8, e⟩ := itr_back h hn h2
  have hd : d * (840 / d) = 840 := by
    have : d = 1 ∨ d = 2 ∨ d = 3 ∨ d = 4 ∨ d = 5 ∨ d = 6 ∨ d = 7 ∨ d = 8 := by omega
    rcases this with rfl | rfl | rfl | rfl | rfl | rfl | rfl | rfl <;> rfl
  have g := pw_get h h2 840
  rw [← hd, itr_mul e, hd] at g
  have g2 := idn_get h2
  rw [← g] at g2
  rw [List.getD_eq_getElem?_getD, List.getD_eq_getElem?_getD, List.getElem?_eq_getElem h1, List.getElem?_eq_getElem (by rw [idn_len]; exact h2)] at g2
  exact g2.symm
theorem least (P : Nat → Prop) : ∀ m, 1 ≤ m → P m → ∃ k, 1 ≤ k ∧ k ≤ m ∧ P k ∧ ∀ j, 1 ≤ j → j < k → ¬ P j := by
  intro m
  induction m using Nat.strongRecOn with
  | ind m ih =>
    intro h1 hp
    by_cases q : ∃ j, 1 ≤ j ∧ j < m ∧ P j
    · obtain ⟨j, a, b, c⟩ := q
      obtain ⟨k, x, y, z⟩ := ih j b a c
      exact ⟨k, x, by omega, z⟩
    · exact ⟨m, h1, Nat.le_refl _, hp, fun j a b c => q ⟨j, a, b, c⟩⟩
/-- its order -/
def Ord (n : Nat) (c : List Int) (k : Nat) : Prop := 1 ≤ k ∧ k ≤ 840 ∧ pw n c k = idn n ∧ ∀ j, 1 ≤ j → j < k → ¬ pw n c j = idn n
theorem ord_ex {n : Nat} {c : List Int} (h : Pm n c) (hn : n ≤ 8) : ∃ k, Ord n c k := least (fun k => pw n c k = idn n) 840 (by omega) (pw_840 h hn)
theorem pw_one {n : Nat} {c : List Int} (h : Pm n c) : pw n c 1 = c := id_cmp h.len
def OrI (n : Nat) (d : D) (c : List Int) (m k : Nat) (ρ : Env) : Prop := ∃ t : Nat, 1 ≤ t ∧ k + t = m ∧ ρ = [some d, some (tupI (pw n c t)), some (.int (t : Int))]
def TiI (n : Nat) (d : D) (c : List Int) (m : Nat) (rest : List D) (ρ : Env) : Prop := ∃ (k : Nat) (z : Option D), k + 1 ≤ m ∧ rest = ((List.range 899).drop k).map (fun (i : Nat) => D.int (1 + i)) ∧ ρ = [some d, some (tupI (pw n c (k + 1))), z]
theorem p_idx {r : List Int} {y : Int} (h : y ∈ r) {P : D → Prop} {X : Exc → Prop} : (idxO (tupI r) [.int y]).wp P X = P (.int (r.idxOf y : Nat)) := by
  unfold idxO
  have e : items (tupI r) = .ok (r.map .int) := rfl
  dsimp only
  rw [e]
  show (if shp (tupI r) = true ∧ shp (D.int y) = true then (match (r.map D.int).findIdx? (fun z => eqD z (.int y)) with
    | some j => Out.ok (D.int (j : Nat))
    | none => .bad) else .bad).wp P X = _
  rw [if_pos ⟨(Fl.tupI r).shp, (Fl.int y).shp⟩, find_idx y h]
  rfl
def LwA (ns : List Int) (n : Nat) (gs : List (List Int)) (due : D) (ρ : Env) : Prop := ∃ (p : D) (z6 z7 z8 : Option D), Pool p ∧ ρ = [some (.scr ns), some p, some (.int (n : Int)), some (.lst (gs.map tupI)), some due, some due, z6, z7, z8, none, none, none, none]
def LwB (ns : List Int) (n : Nat) (gs : List (List Int)) (due : D) (rest : List D) (ρ : Env) : Prop := (∀ x ∈ rest, ∃ r, isSeq x r ∧ Pm n r) ∧ ∃ (p : D) (z6 z7 z8 z9 z10 z11 : Option D), Pool p ∧ ρ = [some (.scr ns), some p, some (.int (n : Int)), some (.lst (gs.map tupI)), some due, some due, z6, z7, z8, z9, z10, z11, none]
end PyD

set_option Elab.async false
set_option linter.all false
set_option maxRecDepth 100000
set_option maxHeartbeats 1000000
namespace PyD
open PySem
/-- an error of changes -/
def exC (p : D × Str) : Exc := ⟨"BadChanges", [("number", p.1), ("reason", .str p.2)]⟩
def faultR (n : Nat) (r : List Int) : Option Str := if r.length ≠ n then some "length" else if (r.all fun x => decide (0 ≤ x) && decide (x < (n : Int))) = false then some "symbol" else if r.Nodup then none else some "twice"
def fltD : Option Str → D
  | none => .non
  | some w => .str w
def firstFault (n : Nat) : Nat → List (List Int) → Option (Nat × Str)
  | _, [] => none
  | k, r :: rs => match faultR n r with
    | some w => some (k, w)
    | none => firstFault n (k + 1) rs
def badOf (sy : Int) (gs : List (List Int)) : Option (D × Str) := if ¬ (2 ≤ sy ∧ sy ≤ 8) then some (.non, "symbols") else if 3 < gs.length then some (.non, "given") else (firstFault sy.toNat 0 gs).map fun p => (.int (p.1 : Nat), p.2)
open Classical in
noncomputable def rsn (sy : Int) (gs : List (List Int)) : Option (D × Str) := match badOf sy gs with
  | some e => some e
  | none => if Good sy.toNat gs then none else some (.non, "many")
theorem faultR_none {n : Nat} {r : List Int} (h : faultR n r = none) : Pm n r := by
  unfold faultR at h
  by_cases h1 : r.length ≠ n
  · rw [if_pos h1] at h; cases h
  · rw [if_neg h1] at h
    by_cases h2 : (r.all fun x => decide (0 ≤ x) && decide (x < (n : Int))) = false
    · rw [if_pos h2] at h; cases h
    · rw [if_neg h2] at h
      by_cases h3 : r.Nodup
      · refine ⟨by omega, fun x hx => ?_, h3⟩
        have h2 := Bool.of_not_eq_false h2
        rw [List.all_eq_true] at h2
        simpa using h2 x hx
      · rw [if_neg h3] at h; cases h
theorem firstFault_none {n : Nat} : ∀ {k : Nat} {gs : List (List Int)}, firstFault n k gs = none → ∀ g ∈ gs, Pm n g
  | _, [], _, _, hg => nomatch hg
  | k, r :: rs, h, g, hg => by
    unfold firstFault at h
    cases e : faultR n r with
    | some w => rw [e] at h; cases h
    | none =>
      rw [e] at h
      rcases List.mem_cons.mp hg with rfl | hg
      · exact faultR_none e
      · exact firstFault_none h g hg
theorem badOf_none {sy : Int} {gs : List (List Int)} (h : badOf sy gs = none) : 2 ≤ sy ∧ sy ≤ 8 ∧ gs.length ≤ 3 ∧ ∀ g ∈ gs, Pm sy.toNat g := by
  unfold badOf at h
  by_cases h1 : ¬ (2 ≤ sy ∧ sy ≤ 8)
  · rw [if_pos h1] at h; cases h
  · rw [if_neg h1] at h
    by_cases h2 : 3 < gs.length
    · rw [if_pos h2] at h; cases h
    · rw [if_neg h2, Option.map_eq_none_iff] at h
      exact ⟨by omega, by omega, by omega, firstFault_none h⟩
theorem dd_le : ∀ r : List Int, (L2X.dd r).length ≤ r.length
  | [] => Nat.le_refl _
  | x :: r => by
    unfold L2X.dd
    have := dd_le r
    have h2 := List.length_filter_le (fun y => decide (y ≠ x)) (L2X.dd r)
    rw [List.length_cons, List.length_cons]
    omega
theorem dd_nd : ∀ {r : List Int}, (L2X.dd r).length = r.length → r.Nodup
  | [], _ => List.nodup_nil
  | x :: r, h => by
    unfold L2X.dd at h
    rw [List.length_cons, List.length_cons] at h
    have h1 := dd_le r
    have h2 := List.length_filter_le (fun y => decide (y ≠ x)) (L2X.dd r)
    have e1 : (L2X.dd r).length = r.length := by omega
    refine List.nodup_cons.mpr ⟨fun hx => ?_, dd_nd e1⟩
    have hf : ((L2X.dd r).filter (fun y => decide (y ≠ x))).length = (L2X.dd r).length := by omega
    have := List.length_filter_eq_length_iff.mp hf x (L2X.mem_dd.mpr hx)
    simp at this
theorem isSeq.lenSetG {d : D} {r : List Int} (h : isSeq d r) (hl : r.length ≤ 1000) {P : D → Prop} {X : Exc → Prop} : (lenSetO d).wp P X = P (.int ((L2X.dd r).length : Nat)) := by
  have go : (lenSetO d) = .ok (.int ((L2X.dd r).length : Nat)) := by
    unfold lenSetO
    rcases h with rfl | rfl
    · show (match ints? (r.map D.int) with | some ns => if ns.length ≤ 1000 then Out.ok (D.int ((L2X.dd ns).length : Nat)) else .bad | none => .bad) = _
      rw [ints?_all]
      dsimp only
      rw [if_pos hl]
    · show (match ints? (r.map D.int) with | some ns => if ns.length ≤ 1000 then Out.ok (D.int ((L2X.dd ns).length : Nat)) else .bad | none => .bad) = _
      rw [ints?_all]
      dsimp only
      rw [if_pos hl]
  rw [go]; rfl
theorem bls_map : ∀ l : List Bool, bls? (l.map D.bl) = some l
  | [] => rfl
  | b :: l => by
    rw [List.map_cons]
    unfold bls?
    rw [bls_map l]; rfl
theorem p_all (l : List Bool) {P : D → Prop} {X : Exc → Prop} : (allO [.lst (l.map D.bl)]).wp P X = P (.bl (l.all id)) := by
  unfold allO
  dsimp only
  rw [bls_map]
  rfl
theorem fault_gen {n : Nat} {d : D} {r : List Int} (h : isSeq d r) (hl : r.length ≤ 1000) : (m_fault_of [.int (n : Int), d]).wp (fun x => x = (fltD (faultR n r), [])) no := by
  simp [m_fault_of, b_fault_of, h.len, h.walk, M.wipeE]
  by_cases h1 : r.length = n
  · have e1 : (r.length : Int) = n := by omega
    simp [e1]
    refine lc_pure (fun d => match d with | .int x => D.bl (decide (0 ≤ x) && decide (x < (n : Int))) | d => d) (fun d => rfl) (fun x hx => ?_) (by simp; omega) ?_
    · obtain ⟨i, hi, rfl⟩ := List.mem_map.mp hx
      by_cases h0 : 0 ≤ i
      · simp [h0]
      · simp [h0]
    · have em : (List.map (fun d => match d with | D.int x => D.bl (decide (0 ≤ x) && decide (x < (n : Int))) | d => d) (r.map D.int)) = (r.map fun x => decide (0 ≤ x) && decide (x < (n : Int))).map D.bl := by
        rw [List.map_map, List.map_map]; rfl
      rw [em, p_all]
      simp [M.back, h.lenSetG hl, ioOf, ioFrom]
      have ea : (List.all (List.map (fun x => decide (0 ≤ x) && decide (x < (n : Int))) r) id) = r.all fun x => decide (0 ≤ x) && decide (x < (n : Int)) := by rw [List.all_map]; rfl
      by_cases h2 : (r.all fun x => decide (0 ≤ x) && decide (x < (n : Int))) = true
      · have h2' := h2
        rw [List.all_eq_true] at h2'
        have h2n : ¬ (r.all fun x => decide (0 ≤ x) && decide (x < (n : Int))) = false := by rw [h2]; simp
        rw [if_pos (fun x hx => by simpa using h2' x hx)]
        by_cases h3 : r.Nodup
        · have e3 : (L2X.dd r).length = n := by rw [← h1]; exact L2X.nodup_len (L2X.dd_nodup r) h3 fun k => L2X.mem_dd
          have e4 : faultR n r = none := by unfold faultR; rw [if_neg (by omega), if_neg h2n, if_pos h3]
          rw [if_pos (by omega), e4]; rfl
        · have e3 : ¬ (L2X.dd r).length = n := fun e => h3 (dd_nd (by omega))
          have e4 : faultR n r = some ("twice" : Str) := by unfold faultR; rw [if_neg (by omega), if_neg h2n, if_neg h3]
          rw [if_neg (by omega), e4]; rfl
      · have h2n : (r.all fun x => decide (0 ≤ x) && decide (x < (n : Int))) = false := Bool.eq_false_iff.mpr h2
        have e4 : faultR n r = some ("symbol" : Str) := by unfold faultR; rw [if_neg (by omega), if_pos h2n]
        rw [e4]
        have h2 : ¬ ∀ x ∈ r, 0 ≤ x ∧ x < (n : Int) := fun h => by
          rw [List.all_eq_false] at h2n
          obtain ⟨x, hx, h'⟩ := h2n
          have := h x hx
          simp [this] at h'
        rw [if_neg h2]; rfl
  · have e1 : ¬ (r.length : Int) = n := by omega
    have e4 : faultR n r = some ("length" : Str) := by unfold faultR; rw [if_pos h1]
    simp [e1, ioOf, ioFrom, e4]
    rfl
def exs (p : Option (D × Str)) (e : Exc) : Prop := ∃ q, p = some q ∧ e = exC q
theorem exs_mk {k : D} {w : Str} {p : Option (D × Str)} (h : p = some (k, w)) : exs p ⟨"BadChanges", [("number", k), ("reason", .str w)]⟩ := ⟨_, h, rfl⟩
theorem ff_cons (n k : Nat) (r : List Int) (rs : List (List Int)) : firstFault n k (r :: rs) = match faultR n r with
    | some w => some (k, w)
    | none => firstFault n (k + 1) rs := (rfl)
def StI (n : Nat) (dg : D) (gs : List (List Int)) (todo : List D) (ρ : Env) : Prop := ∃ (z1 z2 z3 : Option D) (k : Nat) (ds : List D) (hs : List (List Int)), todo = enF ds k ∧ Seqs ds hs ∧ (∀ h ∈ hs, h.length ≤ 1000) ∧ firstFault n 0 gs = firstFault n k hs ∧ ρ = [some (.int (n : Int)), some dg, z1, z2, z3]
theorem settled_gen {sy : Int} {ds : List D} {gs : List (List Int)} (hs : Seqs ds gs) (hg : ∀ g ∈ gs, g.length ≤ 1000) (hl : gs.length ≤ 1000) {dg : D} (hd : dg = .lst ds ∨ dg = .tup ds) : (m_settled_changes [.int sy, dg]).wp (fun x => x = (.tup (gs.map tupI), []) ∧ badOf sy gs = none) (exs (badOf sy gs)) := by
  have hlen := hs.len
  have hw : ∀ {P : List D → Prop} {X : Exc → Prop}, (walked dg).wp P X = P ds := by rcases hd with rfl | rfl <;> (intro P X; rfl)
  have hL : ∀ {P : D → Prop} {X : Exc → Prop}, (lenO2 [dg]).wp P X = P (.int ds.length) := by rcases hd with rfl | rfl <;> (intro P X; rfl)
  simp [m_settled_changes, b_settled_changes, hw, hL, hlen]
  by_cases h28 : 2 ≤ sy ∧ sy ≤ 8
  · obtain ⟨h2, h8⟩ := h28
    simp [h2, h8]
    by_cases h3 : 3 < gs.length
    · have h3' : (3 : Int) < gs.length := by omega
      have e : badOf sy gs = some (D.non, ("given" : Str)) := by unfold badOf; rw [if_neg (by omega), if_pos h3]
      simp [h3', e]
      exact exs_mk rfl
    · have h3' : ¬ (3 : Int) < gs.length := by omega
      obtain ⟨n, rfl⟩ : ∃ n : Nat, sy = n := ⟨sy.toNat, by omega⟩
      have e : badOf (n : Int) gs = (firstFault n 0 gs).map fun p => (.int (p.1 : Nat), p.2) := by unfold badOf; rw [if_neg (by omega), if_neg h3]; rfl
      simp [h3', e]
      refine each_wp (I := StI n dg gs) (fun x todo ρ hI => ?_) (fun ρ hI => ?_) _ _ ⟨none, none, none, 0, ds, gs, enD_eq ds, hs, hg, rfl, rfl⟩
      · obtain ⟨z1, z2, z3, k, ds', hs', et, sq, hg', ef, rfl⟩ := hI
        cases sq with
        | nil => cases et
        | @cons d r ds'' gs'' hq sq =>
          unfold enF at et
          injection et with et1 et2
          subst et1 et2
          simp [chk, chkA, owIdx, md]
          refine Out.wp.mono (fault_gen hq (hg' r List.mem_cons_self)) (fun y hy => ?_) (fun _ z => z.elim)
          rw [hy]
          rw [ff_cons] at ef
          cases e2 : faultR n r with
          | none =>
            rw [e2] at ef
            simp [fltD, isNon]
            exact ⟨_, _, _, k + 1, ds'', gs'', rfl, sq, fun h hh => hg' h (List.mem_cons_of_mem _ hh), ef, rfl⟩
          | some w =>
            rw [e2] at ef
            simp [fltD, isNon]
            rw [ef]
            exact exs_mk rfl
      · obtain ⟨z1, z2, z3, k, ds', hs', et, sq, hg', ef, rfl⟩ := hI
        cases sq with
        | cons _ _ => cases et
        | nil =>
          simp [hw, M.wipeE]
          refine lc_pure toT (fun d => rfl) (fun d hd' => ?_) (by omega) ?_
          · obtain ⟨r, hr, hq⟩ := hs.mem hd'
            simp [hq.tup, hq.toT]
          · simp [M.back, ioOf, ioFrom, hs.map]
            exact ef
  · have e : badOf sy gs = some (D.non, ("symbols" : Str)) := by unfold badOf; rw [if_pos h28]
    rw [e]
    by_cases h2 : 2 ≤ sy
    · have h8 : ¬ sy ≤ 8 := by omega
      simp [h2, h8]
      exact exs_mk rfl
    · simp [h2]
      exact exs_mk rfl
def bstep (f w : List Int) : Nat → List (List Int) → List (List Int × List Int) → List (List Int × List Int)
  | _, [], A => A
  | j, g :: gs, A => if cmp f g ∈ A.map (·.1) then bstep f w (j + 1) gs A else bstep f w (j + 1) gs (A ++ [(cmp f g, w ++ [(j : Int)])])
def BF (n : Nat) (gs : List (List Int)) : Nat → List (List Int × List Int)
  | 0 => [(idn n, [])]
  | k + 1 => match (BF n gs k)[k]? with
    | some p => bstep p.1 p.2 0 gs (BF n gs k)
    | none => BF n gs k
theorem bstep_pre (f w : List Int) : ∀ (gs : List (List Int)) (j : Nat) (A : List (List Int × List Int)), ∃ C, bstep f w j gs A = A ++ C
  | [], j, A => ⟨[], by unfold bstep; simp⟩
  | g :: gs, j, A => by
    unfold bstep
    split
    · exact bstep_pre f w gs (j + 1) A
    · obtain ⟨C, h⟩ := bstep_pre f w gs (j + 1) (A ++ [(cmp f g, w ++ [(j : Int)])])
      exact ⟨_, by rw [h, List.append_assoc]⟩
/-- what holds of what was made so far -/
structure Bw (n : Nat) (gs : List (List Int)) (A : List (List Int × List Int)) : Prop where
  nd : (A.map (·.1)).Nodup
  reach : ∀ p ∈ A, Reach n gs p.1
  one : A[0]? = some (idn n, [])
  len : ∀ p ∈ A, p.2.length ≤ A.length
theorem Bw.add {n : Nat} {gs : List (List Int)} {A : List (List Int × List Int)} (b : Bw n gs A) {f w : List Int} (h : f ∉ A.map (·.1)) (r : Reach n gs f) (hw : w.length ≤ A.length + 1) : Bw n gs (A ++ [(f, w)]) where
  nd := by
    rw [List.map_append, List.nodup_append]
    refine ⟨b.nd, by simp, fun a ha c hc e => h ?_⟩
    simp at hc
    rw [← hc, ← e]; exact ha
  reach := fun p hp => by
    rcases List.mem_append.mp hp with hp | hp
    · exact b.reach p hp
    · rw [List.mem_singleton] at hp; rw [hp]; exact r
  one := by
    have h0 := b.one
    obtain ⟨h1, _⟩ := List.getElem?_eq_some_iff.mp h0
    rw [List.getElem?_append_left h1]; exact h0
  len := fun p hp => by
    rw [List.length_append, List.length_singleton]
    rcases List.mem_append.mp hp with hp | hp
    · exact Nat.le_succ_of_le (b.len p hp)
    · rw [List.mem_singleton] at hp; rw [hp]; exact hw
theorem bstep_bw {n : Nat} {gs : List (List Int)} {f w : List Int} (rf : Reach n gs f) : ∀ (hs : List (List Int)) (j : Nat) (A : List (List Int × List Int)), (∀ h ∈ hs, h ∈ gs) → Bw n gs A → (f, w) ∈ A → Bw n gs (bstep f w j hs A)
  | [], j, A, _, b, _ => b
  | g :: hs, j, A, hh, b, hm => by
    unfold bstep
    split
    · exact bstep_bw rf hs (j + 1) A (fun h hx => hh h (List.mem_cons_of_mem _ hx)) b hm
    · rename_i h
      exact bstep_bw rf hs (j + 1) _ (fun h hx => hh h (List.mem_cons_of_mem _ hx)) (b.add h (.mul rf (hh g List.mem_cons_self)) (by have := b.len _ hm; simp at this ⊢; omega)) (List.mem_append_left _ hm)
theorem bstep_all {f w : List Int} : ∀ (hs : List (List Int)) (j : Nat) (A : List (List Int × List Int)), ∀ g ∈ hs, cmp f g ∈ (bstep f w j hs A).map (·.1)
  | [], _, _, _, h => nomatch h
  | g0 :: hs, j, A, g, h => by
    unfold bstep
    rcases List.mem_cons.mp h with rfl | h
    · split
      · rename_i hm
        obtain ⟨C, e⟩ := bstep_pre f w hs (j + 1) A
        rw [e, List.map_append]; exact List.mem_append_left _ hm
      · obtain ⟨C, e⟩ := bstep_pre f w hs (j + 1) (A ++ [(cmp f g, w ++ [(j : Int)])])
        rw [e, List.map_append]
        refine List.mem_append_left _ ?_
        rw [List.map_append]
        exact List.mem_append_right _ (by simp)
    · split
      · exact bstep_all hs (j + 1) _ g h
      · exact bstep_all hs (j + 1) _ g h
theorem BF_pre (n : Nat) (gs : List (List Int)) (k : Nat) : ∃ C, BF n gs (k + 1) = BF n gs k ++ C := by
  show ∃ C, (match (BF n gs k)[k]? with | some p => bstep p.1 p.2 0 gs (BF n gs k) | none => BF n gs k) = BF n gs k ++ C
  cases (BF n gs k)[k]? with
  | none => exact ⟨[], by simp⟩
  | some p => exact bstep_pre _ _ _ _ _
end PyD

set_option Elab.async false
set_option linter.all false
set_option maxRecDepth 100000
set_option maxHeartbeats 1000000
namespace PyD
open PySem
theorem BF_bw (n : Nat) (gs : List (List Int)) : ∀ k, Bw n gs (BF n gs k)
  | 0 => ⟨by simp [BF], fun p hp => by simp [BF] at hp; rw [hp]; exact .one, rfl, fun p hp => by simp [BF] at hp; rw [hp]; simp⟩
  | k + 1 => by
    have ih := BF_bw n gs k
    show Bw n gs (match (BF n gs k)[k]? with | some p => bstep p.1 p.2 0 gs (BF n gs k) | none => BF n gs k)
    cases e : (BF n gs k)[k]? with
    | none => exact ih
    | some p =>
      have hm := List.mem_of_getElem? e
      exact bstep_bw (ih.reach p hm) gs 0 _ (fun _ h => h) ih hm
theorem BF_closed (n : Nat) (gs : List (List Int)) : ∀ (k i : Nat), i < k → ∀ p, (BF n gs k)[i]? = some p → ∀ g ∈ gs, cmp p.1 g ∈ (BF n gs k).map (·.1)
  | 0, i, h, _, _, _, _ => absurd h (Nat.not_lt_zero _)
  | k + 1, i, h, p, hp, g, hg => by
    obtain ⟨C, eC⟩ := BF_pre n gs k
    by_cases q : i < k
    · by_cases l : i < (BF n gs k).length
      · rw [eC, List.getElem?_append_left l] at hp
        rw [eC, List.map_append]
        exact List.mem_append_left _ (BF_closed n gs k i q p hp g hg)
      · have hn : (BF n gs k)[k]? = none := List.getElem?_eq_none (by omega)
        have e : BF n gs (k + 1) = BF n gs k := by
          show (match (BF n gs k)[k]? with | some p => bstep p.1 p.2 0 gs (BF n gs k) | none => BF n gs k) = _
          rw [hn]
        rw [e, List.getElem?_eq_none (by omega)] at hp
        cases hp
    · have : i = k := by omega
      subst this
      cases e : (BF n gs i)[i]? with
      | none =>
        have e' : BF n gs (i + 1) = BF n gs i := by
          show (match (BF n gs i)[i]? with | some p => bstep p.1 p.2 0 gs (BF n gs i) | none => BF n gs i) = _
          rw [e]
        rw [e', e] at hp
        cases hp
      | some p' =>
        have e' : BF n gs (i + 1) = bstep p'.1 p'.2 0 gs (BF n gs i) := by
          show (match (BF n gs i)[i]? with | some p => bstep p.1 p.2 0 gs (BF n gs i) | none => BF n gs i) = _
          rw [e]
        obtain ⟨hl, _⟩ := List.getElem?_eq_some_iff.mp e
        have : p = p' := by
          rw [eC, List.getElem?_append_left hl, e] at hp
          exact (Option.some.inj hp).symm
        subst this
        rw [e']
        exact bstep_all gs 0 _ g hg
/-- nothing is left to do -/
theorem BF_all {n : Nat} {gs : List (List Int)} {k : Nat} (h : (BF n gs k).length ≤ k) {f : List Int} (r : Reach n gs f) : f ∈ (BF n gs k).map (·.1) := by
  induction r with
  | one =>
    have := (BF_bw n gs k).one
    exact List.mem_map.mpr ⟨_, List.mem_of_getElem? this, rfl⟩
  | mul _ hg ih =>
    obtain ⟨p, hp, rfl⟩ := List.mem_map.mp ih
    obtain ⟨i, hi⟩ := List.mem_iff_getElem?.mp hp
    obtain ⟨hl, _⟩ := List.getElem?_eq_some_iff.mp hi
    exact BF_closed n gs k i (by omega) p hi _ hg
theorem BF_stay {n : Nat} {gs : List (List Int)} {k : Nat} (h : (BF n gs k).length ≤ k) : ∀ j, k ≤ j → BF n gs j = BF n gs k
  | 0, hj => by have : k = 0 := by omega
                rw [this]
  | j + 1, hj => by
    by_cases q : k = j + 1
    · rw [q]
    · have ih := BF_stay h j (by omega)
      show (match (BF n gs j)[j]? with | some p => bstep p.1 p.2 0 gs (BF n gs j) | none => BF n gs j) = _
      rw [ih, List.getElem?_eq_none (by omega)]
theorem Bw.good {n : Nat} {gs : List (List Int)} {A : List (List Int × List Int)} (b : Bw n gs A) (g : Good n gs) : A.length ≤ 24 := by
  obtain ⟨F, h1, h2⟩ := g
  have := nodup_le b.nd fun f hf => by
    obtain ⟨p, hp, rfl⟩ := List.mem_map.mp hf
    exact h2 _ (b.reach p hp)
  rw [List.length_map] at this
  omega
/-- all changes with their ways -/
def allW (n : Nat) (gs : List (List Int)) : List (List Int × List Int) := BF n gs 24
theorem BF_grow (n : Nat) (gs : List (List Int)) (k : Nat) : (∃ j, j ≤ k ∧ (BF n gs j).length ≤ j) ∨ k < (BF n gs k).length := by
  induction k with
  | zero => right; simp [BF]
  | succ k ih =>
    rcases ih with ⟨j, hj, h⟩ | h
    · exact .inl ⟨j, by omega, h⟩
    · by_cases q : (BF n gs (k + 1)).length ≤ k + 1
      · exact .inl ⟨k + 1, by omega, q⟩
      · exact .inr (by omega)
theorem allW_le {n : Nat} {gs : List (List Int)} (g : Good n gs) : (allW n gs).length ≤ 24 := (BF_bw n gs 24).good g
theorem allW_all {n : Nat} {gs : List (List Int)} (g : Good n gs) {f : List Int} (r : Reach n gs f) : f ∈ (allW n gs).map (·.1) := BF_all (allW_le g) r
theorem allW_reach {n : Nat} {gs : List (List Int)} {f : List Int} (h : f ∈ (allW n gs).map (·.1)) : Reach n gs f := by
  obtain ⟨p, hp, rfl⟩ := List.mem_map.mp h
  exact (BF_bw n gs 24).reach p hp
abbrev kysD (A : List (List Int × List Int)) : List D := A.map fun p => tupI p.1
abbrev vlsD (A : List (List Int × List Int)) : List D := A.map fun p => tupI p.2
theorem kys_eq (A : List (List Int × List Int)) : kysD A = (A.map (·.1)).map tupI := by rw [List.map_map]; rfl
theorem dget_at : ∀ {A : List (List Int × List Int)} {p : List Int × List Int}, (A.map (·.1)).Nodup → p ∈ A → dget (kysD A) (vlsD A) (tupI p.1) = some (tupI p.2)
  | [], _, _, h => nomatch h
  | a :: A, p, nd, h => by
    rw [List.map_cons, List.nodup_cons] at nd
    show (if keyOf (tupI a.1) = keyOf (tupI p.1) then some (tupI a.2) else dget (kysD A) (vlsD A) (tupI p.1)) = _
    rcases List.mem_cons.mp h with rfl | h
    · rw [if_pos rfl]
    · rw [if_neg (fun e => nd.1 (List.mem_map.mpr ⟨p, h, (key_eq.mp e).symm⟩))]
      exact dget_at nd.2 h
theorem dget_not : ∀ {A : List (List Int × List Int)} {f : List Int}, f ∉ A.map (·.1) → dget (kysD A) (vlsD A) (tupI f) = none
  | [], _, _ => rfl
  | a :: A, f, h => by
    rw [List.map_cons, List.mem_cons, not_or] at h
    show (if keyOf (tupI a.1) = keyOf (tupI f) then some (tupI a.2) else dget (kysD A) (vlsD A) (tupI f)) = _
    rw [if_neg (fun e => h.1 (key_eq.mp e).symm)]
    exact dget_not h.2
theorem p_notInW {A : List (List Int × List Int)} (f : List Int) {P : D → Prop} {X : Exc → Prop} : (notInO2 (tupI f) (.dic (kysD A) (vlsD A))).wp P X = P (.bl (!decide (f ∈ A.map (·.1)))) := by
  rw [kys_eq]; exact p_notInD (by simp)
theorem p_ixW {A : List (List Int × List Int)} {p : List Int × List Int} (nd : (A.map (·.1)).Nodup) (h : p ∈ A) {P : D → Prop} {X : Exc → Prop} : (ixO2 (.dic (kysD A) (vlsD A)) (tupI p.1)).wp P X = P (tupI p.2) := by
  show (if okKey (tupI p.1) = true then (match dget (kysD A) (vlsD A) (tupI p.1) with
    | some v => Out.ok v
    | none => .bad) else .bad).wp P X = _
  rw [if_pos (ok_tupI _), dget_at nd h]
  rfl
theorem p_stoW {A : List (List Int × List Int)} {f w : List Int} (h : f ∉ A.map (·.1)) (hl : A.length < 100000) {P : D → Prop} {X : Exc → Prop} : (stoO (.dic (kysD A) (vlsD A)) (tupI f) (tupI w)).wp P X = P (.dic (kysD (A ++ [(f, w)])) (vlsD (A ++ [(f, w)]))) := by
  have := p_stoD (K := A.map (·.1)) (vs := vlsD A) (a := f) (v := tupI w) (P := P) (X := X) (by simp) h (by simpa using hl)
  rw [kys_eq, this, kys_eq, List.map_append]
  congr 3
  all_goals simp [vlsD, kysD]
def exMany : Exc → Prop := fun e => e = exC (.non, "many")
def WO (n : Nat) (gs : List (List Int)) (m : Nat) (ρ : Env) : Prop := ∃ (k : Nat) (z4 z5 z6 z7 : Option D), m + k = 24 ∧ k ≤ (BF n gs k).length ∧ (BF n gs k).length ≤ 24 ∧
  ρ = [some (.int (n : Int)), some (.tup (gs.map tupI)), some (.dic (kysD (BF n gs k)) (vlsD (BF n gs k))), some (.lst ((kysD (BF n gs k)).drop k)), z4, z5, z6, z7]
def WI (n : Nat) (gs : List (List Int)) (k : Nat) (p : List Int × List Int) (rest : List D) (ρ : Env) : Prop := ∃ (j : Nat) (post : List (List Int)) (A : List (List Int × List Int)) (z5 z6 z7 : Option D), rest = enF (post.map tupI) j ∧ (∀ g ∈ post, g ∈ gs) ∧ bstep p.1 p.2 j post A = BF n gs (k + 1) ∧
  Bw n gs A ∧ A[k]? = some p ∧ k + 1 ≤ A.length ∧ A.length ≤ 24 ∧ ρ = [some (.int (n : Int)), some (.tup (gs.map tupI)), some (.dic (kysD A) (vlsD A)), some (.lst ((kysD A).drop (k + 1))), some (tupI p.1), z5, z6, z7]
theorem ways_gen {n : Nat} (hn : 1 ≤ n) (hn2 : n ≤ 8) {gs : List (List Int)} (hg : ∀ g ∈ gs, Pm n g) (hgl : gs.length ≤ 10) : (m_ways [.int (n : Int), .tup (gs.map tupI)]).wp (fun x => x = (.dic (kysD (allW n gs)) (vlsD (allW n gs)), []) ∧ Good n gs) (fun e => exMany e ∧ ¬ Good n gs) := by
  simp [m_ways, b_ways, chk, chkA, owIdx, md, ioOf, ioFrom]
  refine Out.wp.mono (unmoved_spec (by omega)) (fun x hx => ?_) (fun _ z => z.elim)
  rw [hx]
  simp
  have d1 : dispO [(tupI (idn n), D.tup [])] = .ok (.dic [tupI (idn n)] [.tup []]) := by
    unfold dispO
    rw [if_pos ⟨by simp, by simp [ok_tupI]⟩]
    rfl
  rw [d1]
  simp
  refine Out.wp.mono (unmoved_spec (by omega)) (fun x hx => ?_) (fun _ z => z.elim)
  rw [hx]
  simp
  refine loop_wp (WO n gs) (fun m ρ hI => ?_) 30 24 _ (by omega) ⟨0, none, none, none, none, rfl, Nat.zero_le _, by simp [BF], by simp [BF, tupI]⟩
  obtain ⟨k, z4, z5, z6, z7, hm, hk, hl, rfl⟩ := hI
  have bw := BF_bw n gs k
  by_cases hkl : k < (BF n gs k).length
  · obtain ⟨p, hp⟩ : ∃ p, (BF n gs k)[k]? = some p := ⟨_, List.getElem?_eq_getElem hkl⟩
    have hd : (kysD (BF n gs k)).drop k = tupI p.1 :: (kysD (BF n gs k)).drop (k + 1) := by
      rw [List.drop_eq_getElem_cons (by simpa using hkl)]
      obtain ⟨_, e⟩ := List.getElem?_eq_some_iff.mp hp
      rw [List.getElem_map, e]
    have e1 : BF n gs (k + 1) = bstep p.1 p.2 0 gs (BF n gs k) := by
      show (match (BF n gs k)[k]? with | some p => bstep p.1 p.2 0 gs (BF n gs k) | none => BF n gs k) = _
      rw [hp]
    rw [hd]
    simp [enD_eq]
    refine each_wp (I := WI n gs k p) (fun d rest ρ hI => ?_) (fun ρ hI => ?_) _ _ ⟨0, gs, BF n gs k, z5, z6, z7, rfl, fun _ h => h, e1.symm, bw, hp, hkl, hl, by simp⟩
    · obtain ⟨j, post, A, z5, z6, z7, er, hpost, eb, bA, hA, hkA, hAl, rfl⟩ := hI
      cases post with
      | nil => cases er
      | cons g post =>
        rw [List.map_cons] at er
        unfold enF at er
        injection er with er1 er2
        subst er1 er2
        have hgm := hpost g List.mem_cons_self
        have pg := hg g hgm
        have hpm := List.mem_of_getElem? hA
        have rp := bA.reach p hpm
        have pf := rp.pm hg
        simp [chk, chkA, owIdx, md]
        refine Out.wp.mono (composed_spec (.inl rfl) (.inl rfl) (by rw [pg.len]; exact pf.row) (by rw [pf.len]; omega)) (fun r hr => ?_) (fun _ z => z.elim)
        rw [hr]
        simp [p_notInW]
        by_cases hc : cmp p.1 g ∈ A.map (·.1)
        · rw [if_neg (by simp only [decide_eq_true hc]; decide)]
          refine ⟨j + 1, post, A, _, _, _, rfl, fun h hh => hpost h (List.mem_cons_of_mem _ hh), ?_, bA, hA, hkA, hAl, rfl⟩
          rw [← eb]
          show _ = if cmp p.1 g ∈ A.map (·.1) then bstep p.1 p.2 (j + 1) post A else _
          rw [if_pos hc]
        · rw [if_pos (by simp only [decide_eq_false hc]; decide)]
          have bA2 := bA.add hc (.mul rp hgm) (w := p.2 ++ [(j : Int)]) (by have := bA.len _ hpm; simp; omega)
          by_cases h24 : A.length = 24
          · have h24' : (A.length : Int) = 24 := by omega
            simp [h24']
            refine ⟨rfl, fun good => ?_⟩
            have := bA2.good good
            simp at this
            omega
          · have h24' : ¬ (A.length : Int) = 24 := by omega
            simp [h24', p_ixW bA.nd hpm]
            have hw := bA.len _ hpm
            have et : (D.tup (List.map D.int p.2 ++ [D.int (j : Int)])) = tupI (p.2 ++ [(j : Int)]) := by unfold tupI; simp
            rw [show tupI p.2 = .tup (p.2.map .int) from rfl]
            simp
            refine ⟨by omega, ?_⟩
            rw [et, p_stoW hc (by omega)]
            simp
            refine ⟨by omega, j + 1, post, A ++ [(cmp p.1 g, p.2 ++ [(j : Int)])], some (.int (j : Int)), some (tupI g), some (tupI (cmp p.1 g)), rfl, fun h hh => hpost h (List.mem_cons_of_mem _ hh), ?_, bA2, ?_, by simp; omega, by simp; omega, ?_⟩
            · rw [← eb]
              show _ = if cmp p.1 g ∈ A.map (·.1) then _ else bstep p.1 p.2 (j + 1) post (A ++ [(cmp p.1 g, p.2 ++ [(j : Int)])])
              rw [if_neg hc]
            · rw [List.getElem?_append_left (by omega)]; exact hA
            · have ed : List.drop (k + 1) (kysD (A ++ [(cmp p.1 g, p.2 ++ [(j : Int)])])) = List.drop (k + 1) (kysD A) ++ [tupI (cmp p.1 g)] := by
                unfold kysD
                rw [List.map_append, List.drop_append_of_le_length (by simpa using hkA)]
                rfl
              rw [ed]
              simp [kysD, vlsD]
    · obtain ⟨j, post, A, z5, z6, z7, er, hpost, eb, bA, hA, hkA, hAl, rfl⟩ := hI
      have : post = [] := by
        cases post with
        | nil => rfl
        | cons a b => cases er
      subst this
      have eb : A = BF n gs (k + 1) := eb
      subst eb
      exact ⟨m - 1, by omega, k + 1, _, _, _, _, by omega, hkA, hAl, rfl⟩
  · have hle : (BF n gs k).length ≤ k := by omega
    rw [List.drop_eq_nil_of_le (by simpa using hle)]
    simp
    have e24 : BF n gs k = allW n gs := (BF_stay hle 24 (by omega)).symm
    rw [e24]
    refine ⟨⟨rfl, rfl⟩, (allW n gs).map (·.1), by rw [← e24]; simpa using hl, fun f r => ?_⟩
    rw [← e24]
    exact BF_all hle r
theorem rsn_bad {sy : Int} {gs : List (List Int)} {q : D × Str} (h : badOf sy gs = some q) : rsn sy gs = some q := by unfold rsn; rw [h]
theorem rsn_good {sy : Int} {gs : List (List Int)} (h : badOf sy gs = none) (g : Good sy.toNat gs) : rsn sy gs = none := by unfold rsn; rw [h]; exact if_pos g
theorem rsn_many {sy : Int} {gs : List (List Int)} (h : badOf sy gs = none) (g : ¬ Good sy.toNat gs) : rsn sy gs = some (D.non, ("many" : Str)) := by unfold rsn; rw [h]; exact if_neg g
theorem exs_bad {sy : Int} {gs : List (List Int)} {e : Exc} (h : exs (badOf sy gs) e) : exs (rsn sy gs) e := by
  obtain ⟨q, h1, h2⟩ := h
  exact ⟨q, rsn_bad h1, h2⟩
theorem exs_many {sy : Int} {gs : List (List Int)} {e : Exc} (h : badOf sy gs = none) (he : exMany e ∧ ¬ Good sy.toNat gs) : exs (rsn sy gs) e := ⟨_, rsn_many h he.2, he.1⟩
/-- the changes of some, in order -/
def allC (n : Nat) (gs : List (List Int)) : List (List Int) := isortT ((allW n gs).map (·.1))
theorem allW_pm {n : Nat} {gs : List (List Int)} (hg : ∀ g ∈ gs, Pm n g) {f : List Int} (h : f ∈ (allW n gs).map (·.1)) : Pm n f := (allW_reach h).pm hg
theorem ways_all {sy : Int} {ds : List D} {gs : List (List Int)} (hs : Seqs ds gs) (hg : ∀ g ∈ gs, g.length ≤ 1000) (hl : gs.length ≤ 1000) {dg : D} (hd : dg = .lst ds ∨ dg = .tup ds) {P : D × List D → Prop} {X : Exc → Prop}
    (k : rsn sy gs = none → badOf sy gs = none → Good sy.toNat gs → P (.dic (kysD (allW sy.toNat gs)) (vlsD (allW sy.toNat gs)), [])) (kx : ∀ e, exs (rsn sy gs) e → X e) :
    (m_settled_changes [.int sy, dg]).wp (fun r => (m_ways [.int sy, r.1]).wp P X) X := by
  refine Out.wp.mono (settled_gen hs hg hl hd) (fun x hx => ?_) (fun e he => kx e (exs_bad he))
  obtain ⟨rfl, hb⟩ := hx
  obtain ⟨h2, h8, h3, hp⟩ := badOf_none hb
  have en : sy = (sy.toNat : Int) := by omega
  dsimp only
  rw [en]
  refine Out.wp.mono (ways_gen (by omega) (by omega) hp (by omega)) (fun y hy => ?_) (fun e he => kx e (exs_many hb he))
  rw [hy.1]
  exact k (rsn_good hb hy.2) hb hy.2
end PyD

set_option Elab.async false
set_option linter.all false
set_option maxRecDepth 100000
set_option maxHeartbeats 1000000
namespace PyD
open PySem
theorem Out.wp.and {α : Type} {o : Out α} {P Q : α → Prop} {X Y : Exc → Prop} (h : o.wp P X) (k : o.wp Q Y) : o.wp (fun a => P a ∧ Q a) (fun e => X e ∧ Y e) := by
  cases o with
  | ok a => exact ⟨h, k⟩
  | exc x => exact ⟨h, k⟩
  | bad => exact h
theorem way_gen {sy : Int} {ds : List D} {gs : List (List Int)} (hs : Seqs ds gs) (hg : ∀ g ∈ gs, g.length ≤ 1000) (hl : gs.length ≤ 1000) {dg : D} (hd : dg = .lst ds ∨ dg = .tup ds) {d : D} {r : List Int} (hr : isSeq d r) :
    (m_way_to [.int sy, dg, d]).wp (fun x => x = ((dget (kysD (allW sy.toNat gs)) (vlsD (allW sy.toNat gs)) (tupI r)).getD .non, []) ∧ rsn sy gs = none ∧ badOf sy gs = none ∧ Good sy.toNat gs) (exs (rsn sy gs)) := by
  simp [m_way_to, b_way_to, chk, chkA, owIdx, md, ioOf, ioFrom]
  refine Out.wp.mono (ways_all hs hg hl hd (P := fun x => x = (.dic (kysD (allW sy.toNat gs)) (vlsD (allW sy.toNat gs)), []) ∧ rsn sy gs = none ∧ badOf sy gs = none ∧ Good sy.toNat gs) (fun a b c => ⟨rfl, a, b, c⟩) (fun e h => h)) (fun x hx => ?_) (fun e h => h)
  refine Out.wp.mono hx (fun y hy => ?_) (fun e h => h)
  have h1 := hy.2.1
  have h2 := hy.2.2.1
  have h3 := hy.2.2.2
  rw [hy.1]
  clear hy
  simp [tagD, hr.tup]
  show (if okKey (tupI r) = true then Out.ok ((dget _ _ (tupI r)).getD .non) else .bad).wp _ _
  rw [if_pos (ok_tupI r)]
  exact ⟨rfl, h1, h2, h3⟩
theorem take_k {p : D} {m : Int} {P : D × List D → Prop} {X : Exc → Prop} (hp : Pool p) (hm : 0 < m) (hm2 : m < 1073741824) (k : ∀ (x : Nat) (p' : D), (x : Int) < m → Pool p' → P (.int (x : Int), [p'])) : (m_law_take 3 [p, .int m]).wp P X :=
  Out.wp.mono (take_spec hp hm hm2) (fun r hr => by
    obtain ⟨x, p', e, hx, hP⟩ := hr
    rw [e]; exact k x p' hx hP) (fun _ z => z.elim)
theorem cut_map (r : List Int) (lo hi : Option Int) : ∃ r' : List Int, cutD (r.map D.int) lo hi = r'.map D.int ∧ r'.length ≤ r.length := by
  unfold cutD
  refine ⟨(r.drop _).take _, by rw [List.map_take, List.map_drop], ?_⟩
  rw [List.length_take, List.length_drop]
  omega
/-- a row that was spoilt -/
def Wrg (b : Nat) (x : D × List D) : Prop := ∃ (r : List Int) (p : D), x = (.lst (r.map .int), [p]) ∧ r.length ≤ b ∧ Pool p
theorem seq_wp {a b : Env → SOut} {ρ : Env} {K : Kt} (Q : Env → Prop) (h1 : (a ρ).wp { K with n := Q }) (h2 : ∀ ρ', Q ρ' → (b ρ').wp K) : (M.seq a b ρ).wp K := by
  rw [w_seq]
  exact SOut.wp.mono h1 h2 (fun _ _ h => h) (fun _ h => h) (fun _ h => h) (fun _ h => h)
/-- lists of ints, as lists -/
abbrev rowsD (rows : List (List Int)) : List D := rows.map fun r => .lst (r.map .int)
def DQ (n k l : Nat) (ρ : Env) : Prop := ∃ (rows : List (List Int)) (p : D) (z3 z4 z5 z6 : Option D), ρ = [some p, some (.int (n : Int)), some (.lst (rowsD rows)), z3, z4, z5, z6] ∧ Pool p ∧ rows.length ≤ k ∧ ∀ r ∈ rows, r.length ≤ l
theorem lc_list (A : List (List Int)) (i : Nat) {ρ0 : Env} (hi : i < ρ0.length) (hw : ∀ d, M.wipeE (ρ0.set i (some d)) [i] = ρ0) (hA : A.length ≤ 1000) {P : List D × Env → Prop} {X : Exc → Prop} (k : P (rowsD A, ρ0)) :
    (M.lcAux (M.gn i) M.yes (M.callB lstO (M.cons (M.ovar i) M.nil)) [i] (A.map tupI) [] ρ0).wp P X := by
  refine lc_pure (fun d => match d with | .tup ds => .lst ds | d => d) hw (fun d hd => ?_) (by simpa using by omega) ?_
  · obtain ⟨r, hr, rfl⟩ := List.mem_map.mp hd
    simp [at_, hi, tupI]
  · have e : (A.map tupI).map (fun d => match d with | .tup ds => .lst ds | d => d) = rowsD A := by rw [List.map_map]; rfl
    rw [e]; exact k
def SoI (n : Nat) (todo acc : List D) (ρ : Env) : Prop := ∃ (rows : List (List Int)) (p : D) (m : Nat), acc = rowsD rows ∧ (∀ r ∈ rows, r.length ≤ 8) ∧ rows.length + todo.length = m ∧ m ≤ 5 ∧ Pool p ∧ ρ = [some p, some (.int (n : Int)), none, none, none, none, none]
theorem drawn1 {n : Nat} (hn : 2 ≤ n) (hn2 : n ≤ 8) {p : D} (hp : Pool p) {K : Kt} (hK : K.x = no) (hQ : K.n = DQ n 5 8) :
    (M.asg 2 (M.lc (M.map rng1 (M.cons (M.call [.ow, .fz, .fz, .fz, .fz, .fz, .fz] [.ow, .an] (m_law_take 3) (M.cons (M.ovar 0) (M.cons (M.oval (M.cst (.int 6))) (M.nil)))) (M.nil))) (M.gn 5) (M.yes) (M.call [.ow, .fz, .fz, .fz, .fz, .fz, .fz] [.ow, .an, .an] m_law_some (M.cons (M.ovar 0) (M.cons (M.oval (M.rgL (M.var 1))) (M.cons (M.ovar 1) (M.nil))))) [5]) [some p, some (.int (n : Int)), none, none, none, none, none]).wp K := by
  simp [chk, chkA, owIdx, md, hK, hQ]
  refine take_k hp (by omega) (by omega) fun x p1 hx hp1 => ?_
  simp
  rw [p_rng1 (by omega)]
  simp [M.wipeE]
  refine lcAux_wp (I := SoI n) (fun d rest acc ρ hI => ?_) (fun acc ρ hI => ?_) _ _ _ ⟨[], p1, x, rfl, by simp, by simp, by omega, hp1, rfl⟩
  · obtain ⟨rows, p2, m, rfl, hr, hl, hm, hp2, rfl⟩ := hI
    simp [chk, chkA, owIdx, md, rgOk_nat (show n ≤ 16000000 by omega)]
    refine row_spec hp2 (by omega) fun r p3 hr3 hp3 => ?_
    simp [M.wipeE]
    have hl3 : r.length = n := by rw [hr3.length_eq, idn_len]
    simp at hl
    refine ⟨by omega, rows ++ [r], p3, m, by simp, fun r' h => ?_, by simp; omega, hm, hp3, rfl⟩
    rcases List.mem_append.mp h with h | h
    · exact hr r' h
    · rw [List.mem_singleton] at h; rw [h]; omega
  · obtain ⟨rows, p2, m, rfl, hr, hl, hm, hp2, rfl⟩ := hI
    simp [M.back]
    simp at hl
    exact ⟨rows, p2, _, _, _, _, rfl, hp2, by omega, hr⟩
theorem drawn2 {n : Nat} (hn : 2 ≤ n) (hn2 : n ≤ 8) {ρ : Env} (h : DQ n 5 8 ρ) {K : Kt} (hK : K.x = no) (hQ : K.n = DQ n 5 8) :
    (M.cond (M.bool (M.op2 eqO (M.oval (M.call [.ow, .fz, .ow, .fz, .fz, .fz, .fz] [.ow, .an] (m_law_take 3) (M.cons (M.ovar 0) (M.cons (M.oval (M.cst (.int 2))) (M.nil))))) (M.oval (M.cst (.int 0))))) (M.asg 2 (M.lc (M.map walked (M.call [.ow, .fz, .ow, .fz, .fz, .fz, .fz] [.ow, .fz] m_law_given (M.cons (M.ovar 0) (M.cons (M.ovar 1) (M.nil))))) (M.gn 6) (M.yes) (M.callB lstO (M.cons (M.ovar 6) (M.nil))) [6])) (M.skip) ρ).wp K := by
  obtain ⟨rows, p, z3, z4, z5, z6, rfl, hp, hk, hl⟩ := h
  simp [chk, chkA, owIdx, md, hK, hQ]
  refine take_k hp (by omega) (by omega) fun x p1 hx hp1 => ?_
  simp
  split
  · refine Out.wp.imp (given_spec hp1 hn hn2) fun r hr => ?_
    obtain ⟨gs, p2, hg, hgl, hp2, rfl⟩ := hr
    simp [M.wipeE]
    refine lc_list gs 6 (by simp) (fun d => rfl) (by omega) ?_
    simp [M.back]
    exact ⟨gs, p2, _, _, _, _, rfl, hp2, by omega, fun r hr => by have := (hg.1 r hr).len; omega⟩
  · exact ⟨rows, p1, _, _, _, _, rfl, hp1, hk, hl⟩
theorem drawn3 {n : Nat} (hn : 2 ≤ n) (hn2 : n ≤ 8) {ρ : Env} (h : DQ n 5 8 ρ) {K : Kt} (hK : K.x = no) (hQ : K.n = DQ n 5 8) :
    (M.cond (M.bool (M.op2 eqO (M.oval (M.call [.ow, .fz, .ow, .fz, .fz, .fz, .fz] [.ow, .an] (m_law_take 3) (M.cons (M.ovar 0) (M.cons (M.oval (M.cst (.int 3))) (M.nil))))) (M.oval (M.cst (.int 0))))) (M.seq (M.asg 2 (M.lc (M.map walked (M.call [.ow, .fz, .ow, .fz, .fz, .fz, .fz] [.ow, .fz] m_law_many_given (M.cons (M.ovar 0) (M.cons (M.ovar 1) (M.nil))))) (M.gn 6) (M.yes) (M.callB lstO (M.cons (M.ovar 6) (M.nil))) [6])) (M.cond (M.bool (M.op2 eqO (M.oval (M.call [.ow, .fz, .ow, .fz, .fz, .fz, .fz] [.ow, .an] (m_law_take 3) (M.cons (M.ovar 0) (M.cons (M.oval (M.cst (.int 2))) (M.nil))))) (M.oval (M.cst (.int 0))))) (M.drop (M.met 2 insO (M.cons (M.call [.ow, .fz, .ow, .fz, .fz, .fz, .fz] [.ow, .an] (m_law_take 3) (M.cons (M.ovar 0) (M.cons (M.oval (M.cst (.int 3))) (M.nil)))) (M.cons (M.call [.ow, .fz, .ow, .fz, .fz, .fz, .fz] [.ow, .an, .an] m_law_some (M.cons (M.ovar 0) (M.cons (M.oval (M.rgL (M.var 1))) (M.cons (M.ovar 1) (M.nil))))) (M.nil))))) (M.skip))) (M.skip) ρ).wp K := by
  obtain ⟨rows, p, z3, z4, z5, z6, rfl, hp, hk, hl⟩ := h
  simp [chk, chkA, owIdx, md, hK, hQ]
  refine take_k hp (by omega) (by omega) fun x p1 hx hp1 => ?_
  simp
  split
  · refine Out.wp.imp (many_spec hp1 hn hn2) fun r hr => ?_
    obtain ⟨gs, p2, hg, hgl, hp2, rfl⟩ := hr
    simp [M.wipeE]
    refine lc_list gs 6 (by simp) (fun d => rfl) (by omega) ?_
    simp [M.back, chk, chkA, owIdx, md]
    have hgr : ∀ r ∈ gs, r.length ≤ 8 := fun r hr => by have := (hg.1 r hr).len; omega
    refine take_k hp2 (by omega) (by omega) fun x p3 hx hp3 => ?_
    simp
    split
    · refine take_k hp3 (by omega) (by omega) fun y p4 hy hp4 => ?_
      simp [rgOk_nat (show n ≤ 16000000 by omega)]
      refine row_spec hp4 (by omega) fun r p5 hr hp5 => ?_
      simp
      have hr8 : r.length ≤ 8 := by rw [hr.length_eq, idn_len]; omega
      have e3 : List.take y (rowsD gs) ++ D.lst (List.map D.int r) :: List.drop y (rowsD gs) = rowsD (gs.take y ++ [r] ++ gs.drop y) := by simp [rowsD]
      rw [e3]
      refine ⟨⟨by omega, by omega⟩, (gs.take y ++ [r] ++ gs.drop y), p5, z3, z4, z5, z6, rfl, hp5, by simp; omega, fun r' h => ?_⟩
      · rcases List.mem_append.mp h with h | h
        · rcases List.mem_append.mp h with h | h
          · exact hgr r' (List.mem_of_mem_take h)
          · rw [List.mem_singleton] at h; rw [h]; exact hr8
        · exact hgr r' (List.mem_of_mem_drop h)
    · exact ⟨gs, p3, _, _, _, _, rfl, hp3, by omega, hgr⟩
  · exact ⟨rows, p1, _, _, _, _, rfl, hp1, hk, hl⟩
def DrT (n : Nat) (todo : List D) (ρ : Env) : Prop := todo.length ≤ 2 ∧ DQ n 5 (18 - 5 * todo.length) ρ
def Drw (x : D × List D) : Prop := ∃ (sy : Int) (rows : List (List Int)) (p : D), x = (.tup [.int sy, .lst (rowsD rows)], [p]) ∧ Pool p ∧ -1 ≤ sy ∧ sy ≤ 10 ∧ rows.length ≤ 5 ∧ ∀ r ∈ rows, r.length ≤ 18
/-- a block without side effects, with a test -/
theorem lc_filter {c : Env → Out (Bool × Env)} {me : Env → Out (D × Env)} {i : Nat} {P : List D × Env → Prop} {X : Exc → Prop} {ρ0 : Env} (b : D → Bool) (f : D → D) (hw : ∀ d, M.wipeE (ρ0.set i (some d)) [i] = ρ0) :
    ∀ {ds acc : List D}, (∀ d ∈ ds, (c (ρ0.set i (some d))).wp (fun q => q = (b d, ρ0.set i (some d))) no) → (∀ d ∈ ds, b d = true → (me (ρ0.set i (some d))).wp (fun q => q = (f d, ρ0.set i (some d))) no) → acc.length + ds.length ≤ 100000 → P (acc ++ (ds.filter b).map f, ρ0) →
      (M.lcAux (M.gn i) c me [i] ds acc ρ0).wp P X
  | [], acc, _, _, _, k => by simpa [M.lcAux] using k
  | d :: ds, acc, hc, hm, hl, k => by
    have h1 := hc d List.mem_cons_self
    unfold M.lcAux
    simp only [M.gn]
    cases e : c (ρ0.set i (some d)) with
    | exc x => rw [e] at h1; exact h1.elim
    | bad => rw [e] at h1; exact h1.elim
    | ok q =>
      rw [e] at h1
      have h1 : q = (b d, ρ0.set i (some d)) := h1
      subst h1
      rw [List.length_cons] at hl
      cases hb : b d with
      | false =>
        simp only [e, hb]
        rw [hw]
        refine lc_filter b f hw (fun d hd => hc d (List.mem_cons_of_mem _ hd)) (fun d hd => hm d (List.mem_cons_of_mem _ hd)) (by omega) ?_
        rw [List.filter_cons_of_neg (by rw [hb]; simp)] at k
        exact k
      | true =>
        simp only [e, hb]
        have h2 := hm d List.mem_cons_self hb
        cases e2 : me (ρ0.set i (some d)) with
        | exc x => rw [e2] at h2; exact h2.elim
        | bad => rw [e2] at h2; exact h2.elim
        | ok q =>
          rw [e2] at h2
          have h2 : q = (f d, ρ0.set i (some d)) := h2
          subst h2
          simp only
          rw [if_pos (by omega), hw]
          refine lc_filter b f hw (fun d hd => hc d (List.mem_cons_of_mem _ hd)) (fun d hd => hm d (List.mem_cons_of_mem _ hd)) (by rw [List.length_append, List.length_singleton]; omega) ?_
          rw [List.filter_cons_of_pos hb, List.map_cons] at k
          simpa using k
theorem idn_sorted (n : Nat) : (idn n).Pairwise (· ≤ ·) := by
  unfold idn
  rw [List.pairwise_map]
  exact (List.pairwise_lt_range (n := n)).imp fun h => by omega
theorem isort_idn {n : Nat} {r : List Int} (h : Pm n r) : isort r = idn n := by
  have p : r.Perm (idn n) := perm_of_nodup h.nd (idn_pm n).nd fun x => ⟨fun hx => by
    obtain ⟨i, rfl, hi⟩ := h.row.nat hx
    exact (idn_pm n).all hi, fun hx => by
    obtain ⟨i, rfl, hi⟩ := (idn_pm n).row.nat hx
    exact h.all hi⟩
  exact sorted_uniq ((isort_perm r).trans p) (isort_sorted r) (idn_sorted n)
theorem p_neL {a b : List Int} {P : D → Prop} {X : Exc → Prop} : (neO (.lst (a.map .int)) (.lst (b.map .int))).wp P X = P (.bl (!decide (a = b))) := by
  rw [p_ne (Fl.lst (k := 0) (Fl.ints a)).shp (Fl.lst (k := 0) (Fl.ints b)).shp, eqD_lstI]
def rsnD : Option (D × Str) → D
  | none => .non
  | some p => .tup [p.1, .str p.2]
def RsI (n : Nat) (rows : List (List Int)) (todo : List D) (ρ : Env) : Prop := ∃ (k : Nat) (z2 z3 : Option D), todo = ((List.range rows.length).drop k).map (fun (i : Nat) => D.int i) ∧ k ≤ rows.length ∧ firstFault n 0 rows = firstFault n k (rows.drop k) ∧ ρ = [some (.int (n : Int)), some (.lst (rowsD rows)), z2, z3, none]
theorem rsnD_ff {n : Nat} (h2 : 2 ≤ n) (h8 : n ≤ 8) {rows : List (List Int)} (h3 : rows.length ≤ 3) {k : Nat} {w : Str} (h : firstFault n 0 rows = some (k, w)) : rsnD (rsn (n : Int) rows) = .tup [.int (k : Nat), .str w] := by
  have : badOf (n : Int) rows = some (.int (k : Nat), w) := by
    unfold badOf
    rw [if_neg (by omega), if_neg (by omega)]
    show Option.map _ (firstFault n 0 rows) = _
    rw [h]; rfl
  rw [rsn_bad this]; rfl
inductive Smp : Nat → D → Prop
  | int {k : Nat} (i : Int) : Smp k (.int i)
  | bl {k : Nat} (b : Bool) : Smp k (.bl b)
  | non {k : Nat} : Smp k .non
  | str {k : Nat} (s : Str) (h : PyData.strOk s = true) : Smp k (.str s)
  | tup {k : Nat} {ds : List D} (h : ∀ d ∈ ds, Smp k d) (hl : ds.length ≤ 1000) : Smp (k + 1) (.tup ds)
  | lst {k : Nat} {ds : List D} (h : ∀ d ∈ ds, Smp k d) (hl : ds.length ≤ 1000) : Smp (k + 1) (.lst ds)
theorem same_lst {ds : List D} {k : Nat} (h : ∀ d ∈ ds, (m_law_same k [d, d]).wp Yes no) (hl : ds.length ≤ 1000) : (m_law_same (k + 1) [.lst ds, .lst ds]).wp Yes no := by
  simp [m_law_same, b_law_same, chk, chkA, owIdx, md, ioOf, ioFrom, p_rng1 (n := ds.length) (by omega), M.wipeE]
  refine lc_pure (fun _ => D.bl true) (fun d => rfl) (fun x hx => ?_) (by simp; omega) ?_
  · obtain ⟨i, hi, rfl⟩ := List.mem_map.mp hx
    have hi := List.mem_range.mp hi
    simp [p_ixL (List.getElem?_eq_getElem hi), chk, chkA, owIdx, md]
    refine Out.wp.imp (h _ (List.getElem_mem hi)) fun x hx => ?_
    rw [show x = _ from hx]
  · rw [p_allT]
    exact rfl
theorem eqD_str (a : Str) : eqD (.str a) (.str a) = true := by
  unfold eqD toPy PyData.eqv
  simp
theorem same_self : ∀ {k : Nat} {d : D}, Smp k d → (m_law_same (k + 1) [d, d]).wp Yes no
  | k, _, .int i => same_int i k
  | k, _, .bl b => by
    have e : (eqO (.bl b) (.bl b)).wp (fun d => d = .bl true) no := by
      rw [p_eq (Fl.bl b).shp (Fl.bl b).shp]
      cases b <;> rfl
    simp [m_law_same, b_law_same, chk, chkA, owIdx, md, ioOf, ioFrom, isNon]
    refine Out.wp.imp e fun d hd => ?_
    rw [hd]; exact rfl
  | k, _, .non => by
    simp [m_law_same, b_law_same, chk, chkA, owIdx, md, ioOf, ioFrom, isNon]
    exact rfl
  | k, _, .str s h => by
    have e : (eqO (.str s) (.str s)).wp (fun d => d = .bl true) no := by
      rw [p_eq (Fl.str s h).shp (Fl.str s h).shp]
      rw [eqD_str]
    simp [m_law_same, b_law_same, chk, chkA, owIdx, md, ioOf, ioFrom, isNon]
    refine Out.wp.imp e fun d hd => ?_
    rw [hd]; exact rfl
  | k + 1, _, .tup h hl => same_tup (fun d hd => same_self (h d hd)) hl
  | k + 1, _, .lst h hl => same_lst (fun d hd => same_self (h d hd)) hl
end PyD

set_option Elab.async false
set_option linter.all false
set_option maxRecDepth 100000
set_option maxHeartbeats 1000000
namespace PyD
open PySem
theorem Smp.le {d : D} : ∀ {k j : Nat}, Smp k d → k ≤ j → Smp j d
  | _, _, .int i, _ => .int i
  | _, _, .bl b, _ => .bl b
  | _, _, .non, _ => .non
  | _, _, .str s h, _ => .str s h
  | k + 1, 0, .tup h hl, h' => absurd h' (by omega)
  | k + 1, 0, .lst h hl, h' => absurd h' (by omega)
  | k + 1, j + 1, .tup h hl, h' => .tup (fun d hd => (h d hd).le (by omega)) hl
  | k + 1, j + 1, .lst h hl, h' => .lst (fun d hd => (h d hd).le (by omega)) hl
theorem Smp.row (r : List Int) (h : r.length ≤ 1000) : Smp 1 (tupI r) := .tup (fun d hd => by
  obtain ⟨i, _, rfl⟩ := List.mem_map.mp hd
  exact .int i) (by simpa using h)
theorem Smp.rows (F : List (List Int)) (hF : F.length ≤ 1000) (h : ∀ r ∈ F, r.length ≤ 1000) : Smp 2 (.tup (F.map tupI)) := .tup (fun d hd => by
  obtain ⟨r, hr, rfl⟩ := List.mem_map.mp hd
  exact .row r (h r hr)) (by simpa using hF)
theorem all2_seqsL : ∀ {gs : List (List Int)} {es : List D}, All2 (fun d e => ∃ r, d = .lst (r.map .int) ∧ isSeq e r) (rowsD gs) es → Seqs es gs
  | [], _, .nil => .nil
  | g :: gs, _, .cons h t => by
    obtain ⟨r, e, h⟩ := h
    have : g = r := by
      injection e with e
      have := (key_eq (a := g) (b := r)).mp (by unfold tupI; rw [e])
      exact this
    subst this
    exact .cons h (all2_seqsL t)
theorem shaped_rowsL {gs : List (List Int)} (hl : gs.length ≤ 1000) (hg : ∀ g ∈ gs, g.length ≤ 1000) {p : D} (hp : Pool p) (k : Nat) : (m_law_shaped (k + 3) [p, .lst (rowsD gs)]).wp (fun x => ∃ ds dg p', x = (dg, [p']) ∧ Pool p' ∧ (dg = .lst ds ∨ dg = .tup ds) ∧ Seqs ds gs) no := by
  refine Out.wp.imp (shaped_list (R := fun d e => ∃ r, d = .lst (r.map .int) ∧ isSeq e r) (k := k + 2) (ds := rowsD gs) (fun d hd p hp => ?_) (by simpa using hl) hp (.inl rfl)) fun x hx => ?_
  · obtain ⟨g, hg', rfl⟩ := List.mem_map.mp hd
    refine Out.wp.imp (shaped_row (hg g hg') hp k (.inr rfl)) fun x hx => ?_
    obtain ⟨d', p', rfl, hp', e⟩ := hx
    exact ⟨_, _, rfl, hp', _, rfl, e⟩
  · obtain ⟨ds', p', hp', ha, e⟩ := hx
    rcases e with rfl | rfl
    · exact ⟨_, _, _, rfl, hp', .inl rfl, all2_seqsL ha⟩
    · exact ⟨_, _, _, rfl, hp', .inr rfl, all2_seqsL ha⟩
theorem catch_exC (p : D × Str) : catchX (exC p) [⟨tells ["BadChanges"] [], HM.ite (HM.and (HM.bool (HM.is "BadChanges" true)) (HM.bool (HM.is "BadChanges" true))) (HM.tup (HM.cons (HM.attr "BadChanges" "number") (HM.cons (HM.attr "BadChanges" "reason") (HM.nil)))) (HM.cst (.str "other"))⟩] = .ret (.tup [p.1, .str p.2]) [] := by
  rfl
theorem rgT_int {n : Int} : D.tup (rgD 0 n) = tupI (idn n.toNat) := by
  unfold rgD tupI idn
  rw [List.map_map, Int.sub_zero]
  congr 1
  apply List.map_congr_left
  intro i _
  simp
theorem exs_ret {sy : Int} {rows : List (List Int)} {e : Exc} (h : exs (rsn sy rows) e) : ∃ p, rsn sy rows = some p ∧ e = exC p := h
end PyD

set_option Elab.async false
set_option linter.all false
set_option maxRecDepth 100000
set_option maxHeartbeats 4000000
namespace PyD
open PySem
/-- a way and what it makes, as a pair -/
def pwD (q : List Int × List Int) : D := .tup [tupI q.2, tupI q.1]
abbrev lstW (A : List (List Int × List Int)) : D := .lst (A.map pwD)
def LvO (n : Nat) (gs : List (List Int)) (rest : List D) (ρ : Env) : Prop := ∃ (k : Nat) (z4 z5 z6 z7 z8 z9 : Option D), (k < (BF n gs k).length → 25 ≤ k + rest.length) ∧ k ≤ (BF n gs k).length ∧
  ρ = [some (.int (n : Int)), some (.lst (gs.map tupI)), some (.dic (kysD (BF n gs k)) (vlsD (BF n gs k))), some (lstW ((BF n gs k).drop k)), z4, z5, z6, z7, z8, z9]
def LvM (n : Nat) (gs : List (List Int)) (last : D) (L : Nat) (rest : List D) (ρ : Env) : Prop := ∃ (k : Nat) (z4 z6 z7 z8 z9 : Option D), k + rest.length = L ∧ L ≤ (BF n gs k).length ∧ rest = (((BF n gs k).take L).drop k).map pwD ∧
  ρ = [some (.int (n : Int)), some (.lst (gs.map tupI)), some (.dic (kysD (BF n gs k)) (vlsD (BF n gs k))), some last, z4, some (lstW ((BF n gs k).drop L)), z6, z7, z8, z9]
def LvI (n : Nat) (gs : List (List Int)) (last : D) (L k : Nat) (p : List Int × List Int) (rest : List D) (ρ : Env) : Prop := ∃ (j : Nat) (A : List (List Int × List Int)) (z4 z8 z9 : Option D), j + rest.length = gs.length ∧ rest = (List.range' j (gs.length - j)).map (fun (i : Nat) => D.int i) ∧ bstep p.1 p.2 j (gs.drop j) A = BF n gs (k + 1) ∧
  Bw n gs A ∧ p ∈ A ∧ L ≤ A.length ∧
  ρ = [some (.int (n : Int)), some (.lst (gs.map tupI)), some (.dic (kysD A) (vlsD A)), some last, z4, some (lstW (A.drop L)), some (tupI p.2), some (tupI p.1), z8, z9]
theorem law_ways_spec {n : Nat} (hn : 1 ≤ n) (hn2 : n ≤ 8) {gs : List (List Int)} (hg : ∀ g ∈ gs, Pm n g) (hgl : gs.length ≤ 10) (good : Good n gs) : (m_law_ways [.int (n : Int), .lst (gs.map tupI)]).wp (fun x => x = (.dic (kysD (allW n gs)) (vlsD (allW n gs)), [])) no := by
  simp [m_law_ways, b_law_ways, chk, chkA, owIdx, md, ioOf, ioFrom]
  have rgo : rgOk 0 (n : Int) = true := rgOk_nat (by omega)
  have ei : D.tup (rgD 0 (n : Int)) = tupI (idn n) := by rw [rgD_nat]; unfold tupI idn; rw [List.map_map]; rfl
  rw [rgo, ei]
  have d1 : dispO [(tupI (idn n), D.tup [])] = .ok (.dic [tupI (idn n)] [.tup []]) := by
    unfold dispO
    rw [if_pos ⟨by simp, by simp [ok_tupI]⟩]
    rfl
  simp [d1]
  have r25 : ∀ {P : List D → Prop} {X : Exc → Prop}, (rng1 [.int 25]).wp P X = P ((List.range 25).map fun (i : Nat) => D.int i) := fun {P X} => p_rng1 (n := 25) (by omega)
  rw [r25]
  have l25 : ((List.range 25).map fun (i : Nat) => D.int i).length = 25 := by rw [List.length_map, List.length_range]
  generalize ((List.range 25).map fun (i : Nat) => D.int i) = l at l25 ⊢
  refine each_wp (I := LvO n gs) (fun d rest ρ hI => ?_) (fun ρ hI => ?_) _ _ ⟨0, none, none, none, none, none, none, fun _ => by omega, Nat.zero_le _, by simp [BF, pwD, tupI]⟩
  · obtain ⟨k0, z4, z5, z6, z7, z8, z9, h1, h2, hρ⟩ := hI
    rw [hρ]
    simp
    have start : LvM n gs (lstW ((BF n gs k0).drop k0)) (BF n gs k0).length (((BF n gs k0).drop k0).map pwD) [some (.int (n : Int)), some (.lst (gs.map tupI)), some (.dic (kysD (BF n gs k0)) (vlsD (BF n gs k0))), some (lstW ((BF n gs k0).drop k0)), some d, some (.lst []), z6, z7, z8, z9] :=
      ⟨k0, some d, z6, z7, z8, z9, by rw [List.length_map, List.length_drop]; omega, Nat.le_refl _, by rw [List.take_length], by rw [List.drop_length]; rfl⟩
    refine each_wp (I := LvM n gs (lstW ((BF n gs k0).drop k0)) (BF n gs k0).length) (fun d rest' ρ hI => ?_) (fun ρ hI => ?_) _ _ (by rw [List.map_drop] at start; exact start)
    · obtain ⟨k, z4, z6, z7, z8, z9, m1, m2, m3, hρ⟩ := hI
      have kL : k < (BF n gs k0).length := by rw [List.length_cons] at m1; omega
      obtain ⟨p, hp⟩ : ∃ p, (BF n gs k)[k]? = some p := ⟨_, List.getElem?_eq_getElem (by omega)⟩
      have bw := BF_bw n gs k
      have hd : ((BF n gs k).take (BF n gs k0).length).drop k = p :: ((BF n gs k).take (BF n gs k0).length).drop (k + 1) := by
        rw [List.drop_eq_getElem_cons (by rw [List.length_take]; omega)]
        obtain ⟨_, e⟩ := List.getElem?_eq_some_iff.mp hp
        rw [List.getElem_take, e]
      rw [hd, List.map_cons] at m3
      injection m3 with e1 e2
      have eb : BF n gs (k + 1) = bstep p.1 p.2 0 gs (BF n gs k) := by
        show (match (BF n gs k)[k]? with | some p => bstep p.1 p.2 0 gs (BF n gs k) | none => BF n gs k) = _
        rw [hp]
      rw [hρ, e1]
      unfold pwD
      simp
      rw [p_rng1 (by omega)]
      refine each_wp (I := LvI n gs (lstW ((BF n gs k0).drop k0)) (BF n gs k0).length k p) (fun d r2 ρ hI => ?_) (fun ρ hI => ?_) _ _ ⟨0, BF n gs k, z4, z8, z9, by simp, by rw [List.range_eq_range']; simp, by rw [List.drop_zero]; exact eb.symm, bw, List.mem_of_getElem? hp, m2, rfl⟩
      · obtain ⟨j, A, z4, z8, z9, i1, i2, i3, bA, pA, i4, hρ⟩ := hI
        have jl : j < gs.length := by rw [List.length_cons] at i1; omega
        obtain ⟨t, ht⟩ : ∃ t, gs.length - j = t + 1 := ⟨gs.length - j - 1, by omega⟩
        rw [ht, List.range'_succ, List.map_cons] at i2
        injection i2 with e1 e2
        obtain ⟨g, hgj⟩ : ∃ g, gs[j]? = some g := ⟨_, List.getElem?_eq_getElem jl⟩
        have hgm := List.mem_of_getElem? hgj
        have pg := hg g hgm
        have rp := bA.reach p pA
        have pf := rp.pm hg
        have hdr : gs.drop j = g :: gs.drop (j + 1) := by
          rw [List.drop_eq_getElem_cons jl]
          obtain ⟨_, e⟩ := List.getElem?_eq_some_iff.mp hgj
          rw [e]
        have hix : (gs.map tupI)[j]? = some (tupI g) := by rw [List.getElem?_map, hgj]; rfl
        rw [hρ, e1]
        simp [chk, chkA, owIdx, md]
        rw [p_ixL hix]
        refine Out.wp.mono (law_composed_spec (.inl rfl) (.inl rfl) (by rw [pg.len]; exact pf.row) (by rw [pf.len]; omega)) (fun r hr => ?_) (fun _ z => z.elim)
        rw [hr]
        simp [p_notInW]
        have i2' : r2 = (List.range' (j + 1) (gs.length - (j + 1))).map (fun (i : Nat) => D.int i) := by rw [e2]; congr 2; omega
        rw [hdr] at i3
        unfold bstep at i3
        by_cases hc : cmp p.1 g ∈ A.map (·.1)
        · rw [if_neg (by simp only [decide_eq_true hc]; decide)]
          rw [if_pos hc] at i3
          exact ⟨j + 1, A, z4, _, _, by rw [List.length_cons] at i1; omega, i2', i3, bA, pA, i4, rfl⟩
        · rw [if_pos (by simp only [decide_eq_false hc]; decide)]
          rw [if_neg hc] at i3
          have bA2 := bA.add hc (.mul rp hgm) (w := p.2 ++ [(j : Int)]) (by have := bA.len _ pA; simp; omega)
          have hAl := bA.good good
          have hw := bA.len _ pA
          have et : (D.tup (List.map D.int p.2 ++ [D.int (j : Int)])) = tupI (p.2 ++ [(j : Int)]) := by unfold tupI; simp
          rw [show tupI p.2 = .tup (p.2.map .int) from rfl]
          simp
          refine ⟨by omega, ?_⟩
          rw [et, p_stoW hc (by omega)]
          simp
          refine ⟨by omega, ?_, ?_⟩
          · omega
          refine ⟨j + 1, A ++ [(cmp p.1 g, p.2 ++ [(j : Int)])], z4, some (.int (j : Int)), some (tupI (cmp p.1 g)), by rw [List.length_cons] at i1; omega, i2', i3, bA2, List.mem_append_left _ pA, by simp; omega, ?_⟩
          have ed : (A ++ [(cmp p.1 g, p.2 ++ [(j : Int)])]).drop (BF n gs k0).length = A.drop (BF n gs k0).length ++ [(cmp p.1 g, p.2 ++ [(j : Int)])] := List.drop_append_of_le_length i4
          rw [ed]
          simp [kysD, vlsD, pwD, tupI]
      · obtain ⟨j, A, z4, z8, z9, i1, i2, i3, bA, pA, i4, hρ⟩ := hI
        have ej : j = gs.length := by simpa using i1
        have i3 : A = BF n gs (k + 1) := by rw [ej, List.drop_length] at i3; exact i3
        obtain ⟨C, eC⟩ := BF_pre n gs k
        rw [i3] at hρ
        refine ⟨k + 1, z4, _, _, z8, z9, by rw [List.length_cons] at m1; omega, by rw [eC, List.length_append]; omega, ?_, hρ⟩
        rw [e2, eC, List.take_append_of_le_length m2]
    · obtain ⟨k, z4, z6, z7, z8, z9, m1, m2, m3, hρ⟩ := hI
      have ek : k = (BF n gs k0).length := by simpa using m1
      rw [hρ]
      simp
      rw [← ek] at m2 ⊢
      refine ⟨k, z4, _, z6, z7, z8, z9, fun h => ?_, m2, rfl⟩
      by_cases q : k0 < (BF n gs k0).length
      · have := h1 q
        rw [List.length_cons] at this
        omega
      · have hle : (BF n gs k0).length ≤ k0 := by omega
        have e0 : k = k0 := by omega
        rw [e0] at h
        omega
  · obtain ⟨k, z4, z5, z6, z7, z8, z9, h1, h2, hρ⟩ := hI
    have hl := (BF_bw n gs k).good good
    have hk : ¬ k < (BF n gs k).length := fun q => by have := h1 q; simp at this; omega
    have e24 : BF n gs k = allW n gs := (BF_stay (by omega) 24 (by omega)).symm
    rw [hρ, e24]
    rfl
end PyD

set_option Elab.async false
set_option linter.all false
set_option maxRecDepth 100000
set_option maxHeartbeats 4000000
namespace PyD
open PySem
def rowOf : D → List Int
  | .tup xs => numsOf xs
  | .lst xs => numsOf xs
  | _ => []
theorem isSeq.rowOf {d : D} {r : List Int} (h : isSeq d r) : PyD.rowOf d = r := by
  rcases h with rfl | rfl
  · exact numsOf_map r
  · exact numsOf_map r
theorem Seqs.rows : ∀ {ds : List D} {gs : List (List Int)}, Seqs ds gs → ds.map PyD.rowOf = gs
  | _, _, .nil => rfl
  | _, _, .cons a t => by rw [List.map_cons, a.rowOf, t.rows]
/-- what stands at a place, all rows -/
def col (F : List (List Int)) (s : Nat) : List Int := F.map fun r => r.getD s 0
def orb (F : List (List Int)) (s : Nat) : List Int := isort (L2X.dd (col F s))
def orbF (F : List (List Int)) (s : Nat) : Bool := decide ((orb F s).headD (-1) = (s : Int))
def orbsTo (F : List (List Int)) (k : Nat) : List (List Int) := ((List.range k).filter (orbF F)).map (orb F)
theorem orb_len (F : List (List Int)) (s : Nat) : (orb F s).length ≤ F.length := by
  unfold orb
  rw [(isort_perm _).length_eq]
  have := dd_len (col F s)
  unfold col at this ⊢
  rw [List.length_map] at this
  exact this
theorem orb_cons {F : List (List Int)} (h : F ≠ []) (s : Nat) : ∃ a t, orb F s = a :: t := by
  cases e : orb F s with
  | cons a t => exact ⟨a, t, rfl⟩
  | nil =>
    exfalso
    cases F with
    | nil => exact h rfl
    | cons r F =>
      have m : r.getD s 0 ∈ orb (r :: F) s := by
        unfold orb
        rw [(isort_perm _).mem_iff, L2X.mem_dd]
        exact List.mem_cons_self
      rw [e] at m
      cases m
theorem orbsTo_succ (F : List (List Int)) (k : Nat) : orbsTo F (k + 1) = orbsTo F k ++ if orbF F k = true then [orb F k] else [] := by
  unfold orbsTo
  rw [List.range_succ, List.filter_append, List.map_append]
  cases h : orbF F k <;> simp [h]
theorem rg_cons {n j : Nat} {d : D} {rest : List D} (h : d :: rest = (List.range' j (n - j)).map fun (i : Nat) => D.int i) : j < n ∧ d = .int (j : Int) ∧ rest = (List.range' (j + 1) (n - (j + 1))).map fun (i : Nat) => D.int i := by
  by_cases q : j < n
  · obtain ⟨t, ht⟩ : ∃ t, n - j = t + 1 := ⟨n - j - 1, by omega⟩
    rw [ht, List.range'_succ, List.map_cons] at h
    injection h with h1 h2
    have : n - (j + 1) = t := by omega
    exact ⟨q, h1, by rw [h2, this]⟩
  · have : n - j = 0 := by omega
    rw [this] at h
    cases h
theorem rg_nil {n j : Nat} (hj : j ≤ n) (h : [] = (List.range' j (n - j)).map fun (i : Nat) => D.int i) : j = n := by
  have := congrArg List.length h
  simp at this
  omega
def OsI (n : Nat) (F : List (List Int)) (dg : D) (rest : List D) (ρ : Env) : Prop := ∃ (j : Nat) (z2 z3 : Option D), j ≤ n ∧ rest = (List.range' j (n - j)).map (fun (i : Nat) => D.int i) ∧ ρ = [some dg, some (.lst ((orbsTo F j).map tupI)), z2, z3, none]
theorem symbol_orbits_spec {n : Nat} {ds : List D} {F : List (List Int)} (hs : Seqs ds F) (hF : F ≠ []) (hl : F.length ≤ 60) (hp : ∀ r ∈ F, r.length = n) (hn : n ≤ 1000) {dg : D} (hd : dg = .lst ds ∨ dg = .tup ds) :
    (m_symbol_orbits [dg]).wp (fun x => x = (.tup ((orbsTo F n).map tupI), [])) no := by
  have hw : ∀ {P : List D → Prop} {X : Exc → Prop}, (walked dg).wp P X = P ds := by rcases hd with rfl | rfl <;> intro P X <;> rfl
  obtain ⟨d0, r0, h0, hx0, hr0⟩ : ∃ d0 r0, isSeq d0 r0 ∧ (∀ {P : D → Prop} {X : Exc → Prop}, (ixO2 dg (.int 0)).wp P X = P d0) ∧ r0.length = n := by
    cases hs with
    | nil => exact absurd rfl hF
    | @cons d r _ _ h t => exact ⟨d, r, h, fun {P X} => by
        rcases hd with rfl | rfl
        · exact p_ixL (i := 0) rfl
        · exact p_ixT (i := 0) rfl, hp r List.mem_cons_self⟩
  simp [m_symbol_orbits, b_symbol_orbits, chk, chkA, owIdx, md, ioOf, ioFrom, hx0]
  rw [h0.len, hr0]
  rw [p_rng1 (by omega)]
  refine each_wp (I := OsI n F dg) (fun d rest ρ hI => ?_) (fun ρ hI => ?_) _ _ ⟨0, none, none, Nat.zero_le _, by rw [List.range_eq_range']; simp, rfl⟩
  · obtain ⟨j, z2, z3, hj, hr, hρ⟩ := hI
    obtain ⟨j1, e1, e2⟩ := rg_cons hr
    rw [hρ, e1]
    simp [hw, M.wipeE]
    refine ⟨by rw [hs.len]; omega, ?_⟩
    refine lc_pure (fun d => D.int ((rowOf d).getD j 0)) (fun d => rfl) (fun d hd => ?_) (by rw [hs.len]; omega) ?_
    · obtain ⟨r, hr, h⟩ := hs.mem hd
      simp
      rw [h.ix (by rw [hp r hr]; exact j1), h.rowOf]
      simp
    · have em : ds.map (fun d => D.int ((rowOf d).getD j 0)) = (col F j).map D.int := by
        unfold col
        rw [← hs.rows, List.map_map, List.map_map]
        rfl
      rw [em, setL_ints]
      have l1 : (L2X.dd (col F j)).length < 64 := by
        have := dd_len (col F j)
        unfold col at this ⊢
        rw [List.length_map] at this
        omega
      rw [p_sortSI l1]
      show _
      obtain ⟨a, t, eo⟩ := orb_cons hF j
      have ef : orbF F j = decide (a = (j : Int)) := by unfold orbF; rw [eo]; rfl
      rw [show isort (L2X.dd (col F j)) = orb F j from rfl]
      have hx : ∀ {P : D → Prop} {X : Exc → Prop}, (ixO2 (.lst ((orb F j).map D.int)) (.int 0)).wp P X = P (.int a) := fun {P X} => p_ixL (i := 0) (by rw [eo]; rfl)
      simp [M.back, hx]
      have fin : ∀ b : Bool, orbF F j = b → (.lst ((orbsTo F j).map tupI ++ if b = true then [tupI (orb F j)] else [])) = D.lst ((orbsTo F (j + 1)).map tupI) := fun b hb => by
        rw [orbsTo_succ, hb, List.map_append]
        cases b <;> rfl
      by_cases q : a = (j : Int)
      · rw [if_pos q]
        have eb : orbF F j = true := by rw [ef, decide_eq_true q]
        have l2 : (orbsTo F j).length ≤ 1000 := by
          unfold orbsTo
          rw [List.length_map]
          have := List.length_filter_le (orbF F) (List.range j)
          rw [List.length_range] at this
          omega
        refine ⟨by omega, j + 1, some (.int (j : Int)), some (.lst ((orb F j).map D.int)), by omega, e2, ?_⟩
        rw [← fin true eb]
        rfl
      · rw [if_neg q]
        have eb : orbF F j = false := by rw [ef, decide_eq_false q]
        refine ⟨j + 1, some (.int (j : Int)), some (.lst ((orb F j).map D.int)), by omega, e2, ?_⟩
        rw [← fin false eb]
        simp
  · obtain ⟨j, z2, z3, hj, hr, hρ⟩ := hI
    have := rg_nil hj hr
    rw [hρ, this]
    simp
end PyD

set_option Elab.async false
set_option linter.all false
set_option maxRecDepth 100000
set_option maxHeartbeats 4000000
namespace PyD
open PySem
def OlI (n : Nat) (F : List (List Int)) (rest : List D) (ρ : Env) : Prop := ∃ (j : Nat) (z3 z4 : Option D), j ≤ n ∧ rest = (List.range' j (n - j)).map (fun (i : Nat) => D.int i) ∧ ρ = [some (.int (n : Int)), some (.tup (F.map tupI)), some (.lst (rowsD (orbsTo F j))), z3, z4, none]
theorem law_symbol_orbits_spec {n : Nat} {F : List (List Int)} (hF : F ≠ []) (hl : F.length ≤ 60) (hp : ∀ r ∈ F, r.length = n) (hn : n ≤ 1000) :
    (m_law_symbol_orbits [.int (n : Int), .tup (F.map tupI)]).wp (fun x => x = (.lst (rowsD (orbsTo F n)), [])) no := by
  simp [m_law_symbol_orbits, b_law_symbol_orbits, chk, chkA, owIdx, md, ioOf, ioFrom]
  rw [p_rng1 (by omega)]
  refine each_wp (I := OlI n F) (fun d rest ρ hI => ?_) (fun ρ hI => ?_) _ _ ⟨0, none, none, Nat.zero_le _, by rw [List.range_eq_range']; simp, rfl⟩
  · obtain ⟨j, z2, z3, hj, hr, hρ⟩ := hI
    obtain ⟨j1, e1, e2⟩ := rg_cons hr
    rw [hρ, e1]
    simp [M.wipeE]
    refine lc_pure (fun d => D.int ((rowOf d).getD j 0)) (fun d => rfl) (fun d hd => ?_) (by simp; omega) ?_
    · obtain ⟨r, hr, rfl⟩ := List.mem_map.mp hd
      simp
      rw [(show isSeq (tupI r) r from .inl rfl).ix (by rw [hp r hr]; exact j1), (show isSeq (tupI r) r from .inl rfl).rowOf]
      simp
    · have em : (F.map tupI).map (fun d => D.int ((rowOf d).getD j 0)) = (col F j).map D.int := by
        unfold col
        rw [List.map_map, List.map_map]
        refine List.map_congr_left fun r hr => ?_
        show D.int ((rowOf (tupI r)).getD j 0) = _
        rw [(show isSeq (tupI r) r from .inl rfl).rowOf]
        rfl
      rw [em]
      have l0 : (col F j).length ≤ 1000 := by unfold col; rw [List.length_map]; omega
      simp only []
      rw [p_setI l0]
      have l1 : (L2X.dd (col F j)).length < 64 := by
        have := dd_len (col F j)
        unfold col at this ⊢
        rw [List.length_map] at this
        omega
      rw [p_sortSI l1]
      obtain ⟨a, t, eo⟩ := orb_cons hF j
      have ef : orbF F j = decide (a = (j : Int)) := by unfold orbF; rw [eo]; rfl
      rw [show isort (L2X.dd (col F j)) = orb F j from rfl]
      have hx : ∀ {P : D → Prop} {X : Exc → Prop}, (ixO2 (.lst ((orb F j).map D.int)) (.int 0)).wp P X = P (.int a) := fun {P X} => p_ixL (i := 0) (by rw [eo]; rfl)
      simp [M.back, hx]
      have fin : ∀ b : Bool, orbF F j = b → (.lst (rowsD (orbsTo F j) ++ if b = true then [.lst ((orb F j).map .int)] else [])) = D.lst (rowsD (orbsTo F (j + 1))) := fun b hb => by
        unfold rowsD
        rw [orbsTo_succ, hb, List.map_append]
        cases b <;> rfl
      by_cases q : a = (j : Int)
      · rw [if_pos q]
        have eb : orbF F j = true := by rw [ef, decide_eq_true q]
        have l2 : (orbsTo F j).length ≤ 1000 := by
          unfold orbsTo
          rw [List.length_map]
          have := List.length_filter_le (orbF F) (List.range j)
          rw [List.length_range] at this
          omega
        refine ⟨by omega, j + 1, some (.int (j : Int)), some (.lst ((orb F j).map D.int)), by omega, e2, ?_⟩
        rw [← fin true eb]
        rfl
      · rw [if_neg q]
        have eb : orbF F j = false := by rw [ef, decide_eq_false q]
        refine ⟨j + 1, some (.int (j : Int)), some (.lst ((orb F j).map D.int)), by omega, e2, ?_⟩
        rw [← fin false eb]
        simp
  · obtain ⟨j, z2, z3, hj, hr, hρ⟩ := hI
    have := rg_nil hj hr
    rw [hρ, this]
    simp
/-- the changes that keep a symbol -/
def keptF (F : List (List Int)) (s : Nat) : List (List Int) := F.filter fun r => decide (r.getD s 0 = (s : Int))
theorem kept_map {ds : List D} {F : List (List Int)} (hs : Seqs ds F) (s : Nat) : (ds.filter fun d => decide ((rowOf d).getD s 0 = (s : Int))).map toT = (keptF F s).map tupI := by
  induction hs with
  | nil => rfl
  | @cons d r ds gs h t ih =>
    unfold keptF at ih ⊢
    rw [List.filter_cons, List.filter_cons, h.rowOf]
    by_cases q : r.getD s 0 = (s : Int)
    · rw [if_pos (by simpa using q), if_pos (by simpa using q), List.map_cons, List.map_cons, ih, h.toT]
    · rw [if_neg (by simpa using q), if_neg (by simpa using q), ih]
def noSym : Exc := ⟨"NoSymbol", []⟩
theorem kept_by_spec {n : Nat} {ds : List D} {F : List (List Int)} (hs : Seqs ds F) (hF : F ≠ []) (hl : F.length ≤ 60) (hp : ∀ r ∈ F, r.length = n) (hn : n ≤ 1000) {dg : D} (hd : dg = .lst ds ∨ dg = .tup ds) (i : Int) :
    (m_kept_by [dg, .int i]).wp (fun x => x = (.tup ((keptF F i.toNat).map tupI), []) ∧ 0 ≤ i ∧ i < n) (fun e => e = noSym ∧ ¬ (0 ≤ i ∧ i < n)) := by
  have hw : ∀ {P : List D → Prop} {X : Exc → Prop}, (walked dg).wp P X = P ds := by rcases hd with rfl | rfl <;> intro P X <;> rfl
  obtain ⟨d0, r0, h0, hx0, hr0⟩ : ∃ d0 r0, isSeq d0 r0 ∧ (∀ {P : D → Prop} {X : Exc → Prop}, (ixO2 dg (.int 0)).wp P X = P d0) ∧ r0.length = n := by
    cases hs with
    | nil => exact absurd rfl hF
    | @cons d r _ _ h t => exact ⟨d, r, h, fun {P X} => by
        rcases hd with rfl | rfl
        · exact p_ixL (i := 0) rfl
        · exact p_ixT (i := 0) rfl, hp r List.mem_cons_self⟩
  simp [m_kept_by, b_kept_by, chk, chkA, owIdx, md, ioOf, ioFrom, hx0]
  rw [h0.len, hr0]
  simp
  by_cases q : 0 ≤ i ∧ i < (n : Int)
  · have q1 := q.1
    have q2 := q.2
    have ei : ((i.toNat : Nat) : Int) = i := Int.toNat_of_nonneg q1
    simp [q1, q2, hw, M.wipeE]
    refine lc_filter (fun d => decide ((rowOf d).getD i.toNat 0 = (i.toNat : Int))) toT (fun d => rfl) (fun d hd => ?_) (fun d hd _ => ?_) (by simp; rw [hs.len]; omega) ?_
    · obtain ⟨r, hr, h⟩ := hs.mem hd
      simp
      have hx : ∀ {P : D → Prop} {X : Exc → Prop}, (ixO2 d (.int i)).wp P X = P (.int (r.getD i.toNat 0)) := fun {P X} => by
        have := h.ix (i := i.toNat) (P := P) (X := X) (by rw [hp r hr]; omega)
        rw [ei] at this
        exact this
      rw [hx]
      have em : max i 0 = i := by omega
      simp [h.rowOf, em]
    · obtain ⟨r, hr, h⟩ := hs.mem hd
      simp
      rw [h.tup, h.toT]
    · rw [List.nil_append, kept_map hs]
  · by_cases q1 : 0 ≤ i
    · have q2 : ¬ i < (n : Int) := fun q2 => q ⟨q1, q2⟩
      have q3 : (n : Int) ≤ i := by omega
      simp [q1, q2, q3]
      rfl
    · have q3 : i < 0 := by omega
      simp [q1, q3]
      rfl
theorem seqs_tup : ∀ F : List (List Int), Seqs (F.map tupI) F
  | [] => .nil
  | r :: F => .cons (.inl rfl) (seqs_tup F)
theorem is_none_spec {n : Nat} {F : List (List Int)} (hF : F ≠ []) (hl : F.length ≤ 60) (hp : ∀ r ∈ F, r.length = n) (hn : n ≤ 1000) {i : Int} (hi : ¬ (0 ≤ i ∧ i < n)) :
    (m_law_is_none [.tup (F.map tupI), .int i]).wp Yes no := by
  simp [m_law_is_none, b_law_is_none, chk, chkA, owIdx, md, ioOf, ioFrom]
  refine Out.wp.mono (kept_by_spec (seqs_tup F) hF hl hp hn (.inr rfl) i) (fun x hx => absurd hx.2 hi) (fun e he => ?_)
  rw [he.1]
  rfl
end PyD

set_option Elab.async false
set_option linter.all false
set_option maxRecDepth 100000
set_option maxHeartbeats 4000000
namespace PyD
open PySem
theorem faultR_pm {n : Nat} {r : List Int} (h : Pm n r) : faultR n r = none := by
  unfold faultR
  rw [if_neg (by simp [h.len]), if_neg, if_pos h.nd]
  simp
  intro x hx
  have := h.row x hx
  omega
theorem firstFault_pm {n : Nat} : ∀ {k : Nat} {gs : List (List Int)}, (∀ g ∈ gs, Pm n g) → firstFault n k gs = none
  | _, [], _ => rfl
  | k, r :: rs, h => by
    unfold firstFault
    rw [faultR_pm (h r List.mem_cons_self)]
    exact firstFault_pm fun g hg => h g (List.mem_cons_of_mem _ hg)
theorem badOf_pm {n : Nat} (h2 : 2 ≤ n) (h8 : n ≤ 8) {gs : List (List Int)} (hl : gs.length ≤ 3) (hp : ∀ g ∈ gs, Pm n g) : badOf (n : Int) gs = none := by
  unfold badOf
  rw [if_neg (by omega), if_neg (by omega), Int.toNat_natCast, firstFault_pm hp]
  rfl
theorem way_ok {n : Nat} (h2 : 2 ≤ n) (h8 : n ≤ 8) {gs : List (List Int)} (hl : gs.length ≤ 3) (hp : ∀ g ∈ gs, Pm n g) (good : Good n gs) {ds : List D} (hs : Seqs ds gs) {dg : D} (hd : dg = .lst ds ∨ dg = .tup ds) {d : D} {r : List Int} (hr : isSeq d r) :
    (m_way_to [.int (n : Int), dg, d]).wp (fun x => x = ((dget (kysD (allW n gs)) (vlsD (allW n gs)) (tupI r)).getD .non, [])) no := by
  have hb := badOf_pm h2 h8 hl hp
  refine Out.wp.mono (way_gen (sy := (n : Int)) hs (fun g hg => by rw [(hp g hg).len]; omega) (by omega) hd hr) (fun x hx => hx.1) (fun e he => ?_)
  obtain ⟨q, hq, _⟩ := he
  rw [rsn_good hb good] at hq
  cases hq
theorem shaped_rowsT {gs : List (List Int)} (hl : gs.length ≤ 1000) (hg : ∀ g ∈ gs, g.length ≤ 1000) {p : D} (hp : Pool p) (k : Nat) : (m_law_shaped (k + 3) [p, .tup (gs.map tupI)]).wp (fun x => ∃ ds dg p', x = (dg, [p']) ∧ Pool p' ∧ (dg = .lst ds ∨ dg = .tup ds) ∧ Seqs ds gs) no := by
  refine Out.wp.imp (shaped_list (R := fun d e => ∃ r, d = tupI r ∧ isSeq e r) (k := k + 2) (ds := gs.map tupI) (fun d hd p hp => ?_) (by simpa using hl) hp (.inr rfl)) fun x hx => ?_
  · obtain ⟨g, hg', rfl⟩ := List.mem_map.mp hd
    refine Out.wp.imp (shaped_row (hg g hg') hp k (.inl rfl)) fun x hx => ?_
    obtain ⟨d', p', rfl, hp', e⟩ := hx
    exact ⟨_, _, rfl, hp', _, rfl, e⟩
  · obtain ⟨ds', p', hp', ha, e⟩ := hx
    rcases e with rfl | rfl
    · exact ⟨_, _, _, rfl, hp', .inl rfl, all2_seqs ha⟩
    · exact ⟨_, _, _, rfl, hp', .inr rfl, all2_seqs ha⟩
/-- rows that are no change -/
def oddRows (n : Nat) (free : List Int) : List (List Int) := [[], [0], List.replicate n 0, (List.range n).map fun (i : Nat) => (1 : Int) + i, idn n ++ [0], (-1 : Int) :: free.drop 1]
theorem odd_not {n : Nat} (h2 : 2 ≤ n) {free r : List Int} (h : r ∈ oddRows n free) : ¬ Pm n r := by
  intro p
  unfold oddRows at h
  simp only [List.mem_cons, List.not_mem_nil, or_false] at h
  rcases h with rfl | rfl | rfl | rfl | rfl | rfl
  · have := p.len; simp at this; omega
  · have := p.len; simp at this; omega
  · have := p.nd
    obtain ⟨m, rfl⟩ : ∃ m, n = m + 2 := ⟨n - 2, by omega⟩
    simp [List.replicate_succ] at this
  · have := p.row (1 + ((n - 1 : Nat) : Int)) (List.mem_map.mpr ⟨n - 1, List.mem_range.mpr (by omega), rfl⟩)
    omega
  · have := p.len; simp [idn_len] at this
  · have := p.row (-1) List.mem_cons_self
    omega
theorem odd_len {n : Nat} (h8 : n ≤ 8) {free r : List Int} (hf : free.length ≤ 8) (h : r ∈ oddRows n free) : r.length ≤ 1000 := by
  unfold oddRows at h
  simp only [List.mem_cons, List.not_mem_nil, or_false] at h
  rcases h with rfl | rfl | rfl | rfl | rfl | rfl <;> simp [idn_len] <;> omega
/-- a way, or None, is as itself -/
theorem same_way {n : Nat} {gs : List (List Int)} (good : Good n gs) (f : List Int) : (m_law_same 6 [(dget (kysD (allW n gs)) (vlsD (allW n gs)) (tupI f)).getD .non, (dget (kysD (allW n gs)) (vlsD (allW n gs)) (tupI f)).getD .non]).wp Yes no := by
  have bw : Bw n gs (allW n gs) := BF_bw n gs 24
  by_cases q : f ∈ (allW n gs).map (·.1)
  · obtain ⟨p, hp, rfl⟩ := List.mem_map.mp q
    rw [dget_at bw.nd hp]
    have h1 := bw.len p hp
    have h2 := allW_le good
    exact same_row p.2 (by omega) 4
  · rw [dget_not q]
    exact same_self .non
end PyD

set_option Elab.async false
set_option linter.all false
set_option maxRecDepth 100000
set_option maxHeartbeats 4000000
namespace PyD
open PySem
theorem allW_bw (n : Nat) (gs : List (List Int)) : Bw n gs (allW n gs) := BF_bw n gs 24
structure Gok (n : Nat) (gs : List (List Int)) : Prop where
  h2 : 2 ≤ n
  h8 : n ≤ 8
  pm : ∀ g ∈ gs, Pm n g
  good : Good n gs
  l3 : gs.length ≤ 3
def L3e (ns : List Int) (ρ : Env) : Prop := ∃ (n : Nat) (gs : List (List Int)) (p : D), Gok n gs ∧ Pool p ∧ ρ = [some (.scr ns), some p, some (.int (n : Int)), some (.lst (gs.map tupI)), none, none, none, none, none, none, none, none, none, none]
abbrev dueA (A : List (List Int × List Int)) : D := .dic (kysD A) (vlsD A)
structure Due (n : Nat) (gs : List (List Int)) (A : List (List Int × List Int)) : Prop where
  eq : allW n gs = A
  bw : Bw n gs A
  le : A.length ≤ 24
  pm : ∀ f ∈ A.map (·.1), Pm n f
  one : idn n ∈ A.map (·.1)
theorem due_mk {n : Nat} {gs : List (List Int)} (G : Gok n gs) : ∃ A, Due n gs A := ⟨allW n gs, rfl, BF_bw n gs 24, allW_le G.good, fun f hf => allW_pm G.pm hf, allW_all G.good .one⟩
def Cs (A : List (List Int × List Int)) : List (List Int) := isortT (A.map (·.1))
def wayD (A : List (List Int × List Int)) (f : List Int) : D := (dget (kysD A) (vlsD A) (tupI f)).getD .non
def L4e (ns : List Int) (n : Nat) (gs : List (List Int)) (A : List (List Int × List Int)) (rest : List D) (ρ : Env) : Prop := (∀ x ∈ rest, ∃ r ∈ A.map (·.1), x = tupI r) ∧ ∃ (p : D) (z5 z6 : Option D), Pool p ∧ ρ = [some (.scr ns), some p, some (.int (n : Int)), some (.lst (gs.map tupI)), some (dueA A), z5, z6, none, none, none, none, none, none, none]
def L8e (ns : List Int) (n : Nat) (gs : List (List Int)) (A : List (List Int × List Int)) (free : List Int) (rest : List D) (ρ : Env) : Prop := (∀ x ∈ rest, ∃ r ∈ oddRows n free, x = tupI r) ∧ ∃ (p : D) (z5 z6 z8 : Option D), Pool p ∧ ρ = [some (.scr ns), some p, some (.int (n : Int)), some (.lst (gs.map tupI)), some (dueA A), z5, z6, some (tupI free), z8, none, none, none, none, none]
def L11e (ns : List Int) (n : Nat) (gs : List (List Int)) (A : List (List Int × List Int)) (rest : List D) (ρ : Env) : Prop := (∀ x ∈ rest, ∃ s : Nat, s < n ∧ x = .int (s : Int)) ∧ ∃ (p : D) (z5 z6 z7 z8 z10 z11 z12 : Option D), Pool p ∧ ρ = [some (.scr ns), some p, some (.int (n : Int)), some (.lst (gs.map tupI)), some (dueA A), z5, z6, z7, z8, some (.tup ((Cs A).map tupI)), z10, z11, z12, none]
theorem Good.mono {n : Nat} {gs hs : List (List Int)} (h : ∀ g ∈ hs, g ∈ gs) (g : Good n gs) : Good n hs := by
  obtain ⟨F, h1, h2⟩ := g
  exact ⟨F, h1, fun f r => h2 f (r.sub h)⟩
theorem Due.cs {n : Nat} {gs : List (List Int)} {A : List (List Int × List Int)} (d : Due n gs A) : (∀ f ∈ Cs A, Pm n f) ∧ (Cs A).length ≤ 24 ∧ Cs A ≠ [] := by
  refine ⟨fun f hf => d.pm f ((isortT_perm _).mem_iff.mp hf), ?_, ?_⟩
  · unfold Cs
    rw [(isortT_perm _).length_eq, List.length_map]
    exact d.le
  · intro e
    have h : idn n ∈ Cs A := by
      unfold Cs
      rw [(isortT_perm _).mem_iff]
      exact d.one
    rw [e] at h
    cases h
theorem Due.sort {n : Nat} {gs : List (List Int)} {A : List (List Int × List Int)} (d : Due n gs A) (h1 : 1 ≤ n) (h8 : n ≤ 8) {P : D → Prop} {X : Exc → Prop} : (sortO2 [dueA A]).wp P X = P (.lst ((Cs A).map tupI)) := by
  unfold dueA
  rw [kys_eq]
  exact sort_keys (n := n) h1 (by omega) (by rw [List.length_map]; have := d.le; omega) fun a ha => d.pm a ha
theorem p_getW {A : List (List Int × List Int)} (f : List Int) {P : D → Prop} {X : Exc → Prop} : (getO (dueA A) [tupI f, .non]).wp P X = P (wayD A f) := by
  show (if okKey (tupI f) = true then Out.ok ((dget (kysD A) (vlsD A) (tupI f)).getD .non) else .bad).wp P X = _
  rw [if_pos (ok_tupI f)]
  rfl
theorem p_ixDue {A : List (List Int × List Int)} (nd : (A.map (·.1)).Nodup) {f : List Int} (h : f ∈ A.map (·.1)) {P : D → Prop} {X : Exc → Prop} : (ixO2 (dueA A) (tupI f)).wp P X = P (wayD A f) := by
  obtain ⟨p, hp, rfl⟩ := List.mem_map.mp h
  unfold wayD
  rw [p_ixW nd hp, dget_at nd hp]
  rfl
theorem Due.same {n : Nat} {gs : List (List Int)} {A : List (List Int × List Int)} (d : Due n gs A) (f : List Int) : (m_law_same 6 [wayD A f, wayD A f]).wp Yes no := by
  unfold wayD
  by_cases q : f ∈ A.map (·.1)
  · obtain ⟨p, hp, rfl⟩ := List.mem_map.mp q
    rw [dget_at d.bw.nd hp]
    have h1 := d.bw.len p hp
    have h2 := d.le
    exact same_row p.2 (by omega) 4
  · rw [dget_not q]
    exact same_self .non
theorem Due.way {n : Nat} {gs : List (List Int)} {A : List (List Int × List Int)} (u : Due n gs A) (G : Gok n gs) {ds : List D} (hs : Seqs ds gs) {dg : D} (hd : dg = .lst ds ∨ dg = .tup ds) {d : D} {r : List Int} (hr : isSeq d r) :
    (m_way_to [.int (n : Int), dg, d]).wp (fun x => x = (wayD A r, [])) no := by
  have h := way_ok G.h2 G.h8 G.l3 G.pm G.good hs hd hr
  rw [u.eq] at h
  exact h
theorem Due.not {n : Nat} {gs : List (List Int)} {A : List (List Int × List Int)} (u : Due n gs A) {r : List Int} (h : ¬ Pm n r) : wayD A r = .non := by
  unfold wayD
  rw [dget_not fun q => h (u.pm r q)]
  rfl
/-- a piece of a body that neither returns nor raises -/
def Stg (b : Env → SOut) (ρ : Env) (Q : Env → Prop) : Prop := (b ρ).wp ⟨Q, fun _ _ => False, fun _ => False, fun _ => False, no⟩
theorem seq_stg {a b : Env → SOut} {ρ : Env} {K : Kt} (Q : Env → Prop) (h1 : Stg a ρ Q) (h2 : ∀ ρ', Q ρ' → (b ρ').wp K) : (M.seq a b ρ).wp K := by
  rw [w_seq]
  exact SOut.wp.mono h1 h2 (fun _ _ h => h.elim) (fun _ h => h.elim) (fun _ h => h.elim) (fun _ h => h.elim)
def E0 (ns : List Int) (ρ : Env) : Prop := ∃ p, Pool p ∧ ρ = [some (.scr ns), some p, none, none, none, none, none, none, none, none, none, none, none, none]
def E1 (ns : List Int) (n : Nat) (ρ : Env) : Prop := ∃ p, Pool p ∧ ρ = [some (.scr ns), some p, some (.int (n : Int)), none, none, none, none, none, none, none, none, none, none, none]
def E2 (ns : List Int) (n : Nat) (gs : List (List Int)) (ρ : Env) : Prop := ∃ p, Pool p ∧ ρ = [some (.scr ns), some p, some (.int (n : Int)), some (.lst (gs.map tupI)), none, none, none, none, none, none, none, none, none, none]
theorem st0 {ns : List Int} (hl : ns.length ≤ 63) : Stg b_law_s0 [some (.scr ns), none, none, none, none, none, none, none, none, none, none, none, none, none] (E0 ns) := by
  unfold Stg b_law_s0
  simp [chk, chkA, owIdx, md]
  refine Out.wp.imp (pool_spec ns hl) fun x hx => ?_
  obtain ⟨p, rfl, hp⟩ := hx
  simp
  exact ⟨p, hp, rfl⟩
theorem st1 {ns : List Int} {ρ : Env} (h : E0 ns ρ) : Stg b_law_s1 ρ (fun ρ => ∃ n, 2 ≤ n ∧ n ≤ 8 ∧ E1 ns n ρ) := by
  obtain ⟨p, hp, hρ⟩ := h
  rw [hρ]
  unfold Stg b_law_s1
  simp [chk, chkA, owIdx, md]
  refine take_k hp (by omega) (by omega) fun x p1 hx hp1 => ?_
  simp
  exact ⟨2 + x, by omega, by omega, p1, hp1, by simp⟩
theorem st2 {ns : List Int} {n : Nat} {ρ : Env} (hn : 2 ≤ n) (hn2 : n ≤ 8) (h : E1 ns n ρ) : Stg b_law_s2 ρ (fun ρ => ∃ gs, Gok n gs ∧ E2 ns n gs ρ) := by
  obtain ⟨p, hp, hρ⟩ := h
  rw [hρ]
  unfold Stg b_law_s2
  simp [chk, chkA, owIdx, md]
  refine Out.wp.imp (given_spec hp hn hn2) fun x hx => ?_
  obtain ⟨gs, p1, hg, hgl, hp1, rfl⟩ := hx
  simp
  exact ⟨gs, ⟨hn, hn2, hg.1, hg.2, hgl⟩, p1, hp1, rfl⟩
theorem st3 {ns : List Int} {n : Nat} {gs : List (List Int)} {ρ : Env} (G : Gok n gs) (h : E2 ns n gs ρ) : Stg b_law_s3 ρ (fun ρ => ∃ gs, Gok n gs ∧ E2 ns n gs ρ) := by
  obtain ⟨p, hp, hρ⟩ := h
  rw [hρ]
  have hn := G.h2
  have hn2 := G.h8
  unfold Stg b_law_s3
  simp [chk, chkA, owIdx, md]
  by_cases q : gs = []
  · subst q
    simp
    exact ⟨[], G, p, hp, rfl⟩
  · have q2 : gs.map tupI ≠ [] := by simpa using q
    simp [q]
    by_cases l : gs.length < 3
    · have l' : ((gs.length : Nat) : Int) < 3 := by omega
      simp [l, l']
      refine take_k hp (by omega) (by omega) fun x p1 hx hp1 => ?_
      simp
      by_cases x0 : x = 0
      · simp [x0]
        refine Out.wp.imp (pick_spec (ds := gs.map tupI) hp1 (by rw [List.length_map]; exact List.length_pos_iff.mpr q) (by rw [List.length_map]; omega) (.inl rfl)) fun x hx => ?_
        obtain ⟨d, p2, hd, rfl, hp2⟩ := hx
        obtain ⟨g, hg, rfl⟩ := List.mem_map.mp hd
        simp
        have hsub : ∀ h ∈ g :: gs, h ∈ gs := fun h hh => (List.mem_cons.mp hh).elim (fun e => e ▸ hg) id
        exact ⟨by omega, g :: gs, ⟨hn, hn2, fun h hh => G.pm h (hsub h hh), G.good.mono hsub, by rw [List.length_cons]; omega⟩, p2, hp2, rfl⟩
      · simp [x0]
        exact ⟨gs, G, p1, hp1, rfl⟩
    · have l' : ¬ ((gs.length : Nat) : Int) < 3 := by omega
      simp [l, l']
      exact ⟨gs, G, p, hp, rfl⟩
theorem st4 {ns : List Int} {n : Nat} {gs : List (List Int)} {A : List (List Int × List Int)} {ρ : Env} (G : Gok n gs) (U : Due n gs A) (h : E2 ns n gs ρ) : Stg b_law_s4 ρ (L4e ns n gs A []) := by
  obtain ⟨p, hp, hρ⟩ := h
  rw [hρ]
  unfold Stg b_law_s4
  simp [chk, chkA, owIdx, md]
  have h := law_ways_spec (by have := G.h2; omega) G.h8 G.pm (by have := G.l3; omega) G.good
  rw [U.eq] at h
  refine Out.wp.imp h fun x hx => ?_
  rw [hx]
  exact (show L4e ns n gs A [] _ from ⟨(fun x hx => nomatch hx), p, none, none, hp, rfl⟩)
theorem st5 {ns : List Int} {n : Nat} {gs : List (List Int)} {A : List (List Int × List Int)} {ρ : Env} (G : Gok n gs) (U : Due n gs A) (h : L4e ns n gs A [] ρ) : Stg b_law_s5 ρ (L4e ns n gs A []) := by
  obtain ⟨_, p, z5, z6, hp, hρ⟩ := h
  have hn := G.h2
  have hn2 := G.h8
  have g1000 : gs.length ≤ 1000 := by have := G.l3; omega
  have gl : ∀ g ∈ gs, g.length ≤ 1000 := fun g h => by rw [(G.pm g h).len]; omega
  rw [hρ]
  unfold Stg b_law_s5
  simp
  rw [U.sort (by omega) hn2]
  simp
  refine each_wp (I := L4e ns n gs A) (fun d rest ρ hI => ?_) (fun ρ hI => hI) _ _ ⟨fun x hx => ?_, p, z5, z6, hp, rfl⟩
  · obtain ⟨hm, p, z5, z6, hp, hρ⟩ := hI
    obtain ⟨r, hr, e⟩ := hm d List.mem_cons_self
    have pr := U.pm r hr
    rw [hρ, e]
    simp [chk, chkA, owIdx, md]
    refine Out.wp.imp (shaped_rows g1000 gl hp 1) fun x hx => ?_
    obtain ⟨ds, dg, p, rfl, hp, hdg, hs⟩ := hx
    simp
    refine Out.wp.imp (shaped_row (by rw [pr.len]; omega) hp 2 (.inl rfl)) fun x hx => ?_
    obtain ⟨d1, p, rfl, hp, h1⟩ := hx
    simp
    refine Out.wp.imp (U.way G hs hdg h1) fun x hx => ?_
    rw [hx]
    simp
    rw [p_ixDue U.bw.nd hr]
    refine Out.wp.imp (U.same r) fun x hx => ?_
    rw [show x = _ from hx]
    simp
    exact (show L4e ns n gs A rest _ from ⟨fun x hx => hm x (List.mem_cons_of_mem _ hx), p, some (tupI r), some (wayD A r), hp, rfl⟩)
  · obtain ⟨r, hr, rfl⟩ := List.mem_map.mp hx
    exact ⟨r, (isortT_perm _).mem_iff.mp hr, rfl⟩
end PyD

set_option Elab.async false
set_option linter.all false
set_option maxRecDepth 100000
set_option maxHeartbeats 1000000
namespace PyD
open PySem
def L7e (ns : List Int) (n : Nat) (gs : List (List Int)) (A : List (List Int × List Int)) (free : List Int) (ρ : Env) : Prop := ∃ (p : D) (z5 z6 : Option D), Pool p ∧ ρ = [some (.scr ns), some p, some (.int (n : Int)), some (.lst (gs.map tupI)), some (dueA A), z5, z6, some (tupI free), none, none, none, none, none, none]
theorem st6 {ns : List Int} {n : Nat} {gs : List (List Int)} {A : List (List Int × List Int)} {ρ : Env} (G : Gok n gs) (h : L4e ns n gs A [] ρ) : Stg b_law_s6 ρ (fun ρ => ∃ free, Pm n free ∧ L7e ns n gs A free ρ) := by
  obtain ⟨_, p, z5, z6, hp, hρ⟩ := h
  have hn2 := G.h8
  rw [hρ]
  unfold Stg b_law_s6
  simp [chk, chkA, owIdx, md]
  have rgo : rgOk 0 (n : Int) = true := rgOk_nat (by omega)
  rw [rgo]
  simp
  refine row_spec hp (by omega) fun r p1 hr hp1 => ?_
  simp
  exact ⟨r, Pm.of_perm hr, p1, z5, z6, hp1, rfl⟩
theorem st7 {ns : List Int} {n : Nat} {gs : List (List Int)} {A : List (List Int × List Int)} {free : List Int} {ρ : Env} (G : Gok n gs) (U : Due n gs A) (hf : Pm n free) (h : L7e ns n gs A free ρ) : Stg b_law_s7 ρ (L7e ns n gs A free) := by
  obtain ⟨p, z5, z6, hp, hρ⟩ := h
  rw [hρ]
  unfold Stg b_law_s7
  simp [chk, chkA, owIdx, md]
  refine Out.wp.imp (U.way G (seqs_tup gs) (.inl rfl) (.inl rfl)) fun x hx => ?_
  rw [hx]
  simp [tagD]
  rw [p_getW]
  refine Out.wp.imp (U.same free) fun x hx => ?_
  rw [show x = _ from hx]
  simp
  exact ⟨p, z5, z6, hp, rfl⟩
theorem cut_from (ds : List D) (k : Nat) : cutD ds (some (k : Int)) none = ds.drop k := by
  unfold cutD
  have h0 : HT.sIx ds.length ds.length none = ds.length := rfl
  have e0 : HT.sIx ds.length 0 (some (k : Int)) = min k ds.length := by
    unfold HT.sIx
    first | rfl | (simp; omega) | (split <;> omega)
  rw [h0, e0]
  rcases Nat.le_total k ds.length with h1 | h1
  · rw [Nat.min_eq_left h1, List.take_of_length_le (by rw [List.length_drop]; omega)]
  · rw [Nat.min_eq_right h1, List.drop_of_length_le (by omega), List.drop_of_length_le (by omega)]
    simp
theorem odd_list (n : Nat) (free : List Int) : [D.tup [], D.tup [D.int 0], D.tup (List.replicate n (D.int 0)), D.tup (rgD 1 ((n : Int) + 1)), D.tup (rgD 0 (n : Int) ++ [D.int 0]), D.tup (D.int (-1) :: cutD (List.map D.int free) (some 1) none)] = (oddRows n free).map tupI := by
  have e1 : rgD 1 ((n : Int) + 1) = ((List.range n).map fun (i : Nat) => (1 : Int) + i).map D.int := by
    unfold rgD
    rw [show ((n : Int) + 1 - 1).toNat = n by omega, List.map_map]
    rfl
  have e2 : rgD 0 (n : Int) = (idn n).map D.int := by
    rw [rgD_nat]
    unfold idn
    rw [List.map_map]
    rfl
  rw [e1, e2, show cutD (List.map D.int free) (some 1) none = (free.drop 1).map D.int from by rw [List.map_drop]; exact cut_from _ 1]
  unfold oddRows
  simp [tupI]
theorem st8 {ns : List Int} {n : Nat} {gs : List (List Int)} {A : List (List Int × List Int)} {free : List Int} {ρ : Env} (G : Gok n gs) (U : Due n gs A) (hf : Pm n free) (h : L7e ns n gs A free ρ) : Stg b_law_s8 ρ (L8e ns n gs A free []) := by
  obtain ⟨p, z5, z6, hp, hρ⟩ := h
  have hn := G.h2
  have hn2 := G.h8
  have g1000 : gs.length ≤ 1000 := by have := G.l3; omega
  have gl : ∀ g ∈ gs, g.length ≤ 1000 := fun g h => by rw [(G.pm g h).len]; omega
  rw [hρ]
  unfold Stg b_law_s8
  have rgo : rgOk 0 (n : Int) = true := rgOk_nat (by omega)
  have rg1 : rgOk 1 ((n : Int) + 1) = true := by
    unfold rgOk
    simp only [Bool.and_eq_true, decide_eq_true_eq]
    omega
  simp [rgo, rg1]
  rw [p_mulT1 (by omega)]
  have l1 : (rgD 0 (n : Int)).length ≤ 99999 := by rw [rgD_len]; omega
  refine ⟨l1, ?_⟩
  rw [show tupI free = .tup (free.map .int) from rfl]
  simp
  rw [odd_list]
  refine ⟨by rw [show cutD (List.map D.int free) (some 1) none = (free.map D.int).drop 1 from cut_from _ 1, List.length_drop, List.length_map, hf.len]; omega, ?_⟩
  refine each_wp (I := L8e ns n gs A free) (fun d rest ρ hI => ?_) (fun ρ hI => hI) _ _ ⟨fun x hx => ?_, p, z5, z6, none, hp, rfl⟩
  · obtain ⟨hm, p, z5, z6, z8, hp, hρ⟩ := hI
    obtain ⟨r, hr, e⟩ := hm d List.mem_cons_self
    rw [hρ, e]
    simp [chk, chkA, owIdx, md]
    refine Out.wp.imp (shaped_row (odd_len hn2 (by rw [hf.len]; omega) hr) hp 2 (.inl rfl)) fun x hx => ?_
    obtain ⟨d1, p, rfl, hp, h1⟩ := hx
    simp
    refine Out.wp.imp (U.way G (seqs_tup gs) (.inl rfl) h1) fun x hx => ?_
    rw [hx, U.not (odd_not hn hr)]
    simp
    exact ⟨rfl, (show L8e ns n gs A free rest _ from ⟨fun x hx => hm x (List.mem_cons_of_mem _ hx), p, z5, z6, some (tupI r), hp, rfl⟩)⟩
  · obtain ⟨r, hr, rfl⟩ := List.mem_map.mp hx
    exact ⟨r, hr, rfl⟩
def L9e (ns : List Int) (n : Nat) (gs : List (List Int)) (A : List (List Int × List Int)) (z10 : Option D) (ρ : Env) : Prop := ∃ (p : D) (z5 z6 z7 z8 : Option D), Pool p ∧ ρ = [some (.scr ns), some p, some (.int (n : Int)), some (.lst (gs.map tupI)), some (dueA A), z5, z6, z7, z8, some (.tup ((Cs A).map tupI)), z10, none, none, none]
theorem st9 {ns : List Int} {n : Nat} {gs : List (List Int)} {A : List (List Int × List Int)} {free : List Int} {ρ : Env} (G : Gok n gs) (U : Due n gs A) (h : L8e ns n gs A free [] ρ) : Stg b_law_s9 ρ (L9e ns n gs A none) := by
  obtain ⟨_, p, z5, z6, z8, hp, hρ⟩ := h
  have hn := G.h2
  rw [hρ]
  unfold Stg b_law_s9
  simp
  rw [U.sort (by omega) G.h8]
  simp
  exact ⟨p, z5, z6, _, z8, hp, rfl⟩
theorem lc_tup (F : List (List Int)) (i : Nat) {ρ0 : Env} (hi : i < ρ0.length) (hw : ∀ d, M.wipeE (ρ0.set i (some d)) [i] = ρ0) (hF : F.length ≤ 1000) {P : List D × Env → Prop} {X : Exc → Prop} (k : P (F.map tupI, ρ0)) :
    (M.lcAux (M.gn i) M.yes (M.callB tupO (M.cons (M.ovar i) M.nil)) [i] (rowsD F) [] ρ0).wp P X := by
  refine lc_pure toT hw (fun d hd => ?_) (by simpa using by omega) ?_
  · obtain ⟨r, hr, rfl⟩ := List.mem_map.mp hd
    simp [at_, hi]
    rfl
  · have e : (rowsD F).map toT = F.map tupI := by
      unfold rowsD
      rw [List.map_map]
      rfl
    rw [e]
    exact k
theorem orbsTo_len (F : List (List Int)) (k : Nat) : (orbsTo F k).length ≤ k := by
  unfold orbsTo
  rw [List.length_map]
  have := List.length_filter_le (orbF F) (List.range k)
  rw [List.length_range] at this
  exact this
theorem orbsTo_row {F : List (List Int)} {k : Nat} {r : List Int} (h : r ∈ orbsTo F k) : r.length ≤ F.length := by
  unfold orbsTo at h
  obtain ⟨s, _, rfl⟩ := List.mem_map.mp h
  exact orb_len F s
theorem st10 {ns : List Int} {n : Nat} {gs : List (List Int)} {A : List (List Int × List Int)} {ρ : Env} (G : Gok n gs) (U : Due n gs A) (h : L9e ns n gs A none ρ) : Stg b_law_s10 ρ (L9e ns n gs A (some (.tup ((orbsTo (Cs A) n).map tupI)))) := by
  obtain ⟨p, z5, z6, z7, z8, hp, hρ⟩ := h
  obtain ⟨c1, c2, c3⟩ := U.cs
  have hn2 := G.h8
  rw [hρ]
  unfold Stg b_law_s10
  simp [chk, chkA, owIdx, md]
  refine Out.wp.imp (law_symbol_orbits_spec c3 (by omega) (fun r hr => (c1 r hr).len) (by omega)) fun x hx => ?_
  rw [hx]
  simp [M.wipeE]
  refine lc_tup (orbsTo (Cs A) n) 13 (by simp) (fun d => rfl) (by have := orbsTo_len (Cs A) n; omega) ?_
  simp
  exact ⟨p, z5, z6, z7, z8, hp, rfl⟩
theorem st11 {ns : List Int} {n : Nat} {gs : List (List Int)} {A : List (List Int × List Int)} {ρ : Env} (G : Gok n gs) (U : Due n gs A) (h : L9e ns n gs A (some (.tup ((orbsTo (Cs A) n).map tupI))) ρ) : Stg b_law_s11 ρ (L11e ns n gs A []) := by
  obtain ⟨p, z5, z6, z7, z8, hp, hρ⟩ := h
  obtain ⟨c1, c2, c3⟩ := U.cs
  have hn2 := G.h8
  rw [hρ]
  unfold Stg b_law_s11
  simp [chk, chkA, owIdx, md]
  refine Out.wp.imp (shaped_rowsT (by omega) (fun g hg => by rw [(c1 g hg).len]; omega) hp 1) fun x hx => ?_
  obtain ⟨ds, dg, p, rfl, hp, hdg, hs⟩ := hx
  simp
  refine Out.wp.imp (symbol_orbits_spec hs c3 (by omega) (fun r hr => (c1 r hr).len) (by omega) hdg) fun x hx => ?_
  rw [hx]
  simp
  refine Out.wp.imp (same_rows (orbsTo (Cs A) n) (by have := orbsTo_len (Cs A) n; omega) (fun r hr => by have := orbsTo_row hr; omega) 3) fun x hx => ?_
  rw [show x = _ from hx]
  simp
  exact (show L11e ns n gs A [] _ from ⟨(fun x hx => nomatch hx), p, z5, z6, z7, z8, _, none, none, hp, rfl⟩)
end PyD

set_option Elab.async false
set_option linter.all false
set_option maxRecDepth 100000
set_option maxHeartbeats 1000000
namespace PyD
open PySem
theorem keptF_len (F : List (List Int)) (s : Nat) : (keptF F s).length ≤ F.length := List.length_filter_le _ _
theorem kept_self (F : List (List Int)) (s : Nat) : ((F.map tupI).filter fun d => decide ((rowOf d).getD s 0 = (s : Int))).map (fun d => d) = (keptF F s).map tupI := by
  rw [List.map_id']
  induction F with
  | nil => rfl
  | cons r F ih =>
    unfold keptF at ih ⊢
    rw [List.map_cons, List.filter_cons, List.filter_cons, (show isSeq (tupI r) r from .inl rfl).rowOf]
    by_cases q : r.getD s 0 = (s : Int)
    · rw [if_pos (by simpa using q), if_pos (by simpa using q), List.map_cons, ih]
    · rw [if_neg (by simpa using q), if_neg (by simpa using q), ih]
theorem st12 {ns : List Int} {n : Nat} {gs : List (List Int)} {A : List (List Int × List Int)} {ρ : Env} (G : Gok n gs) (U : Due n gs A) (h : L11e ns n gs A [] ρ) : Stg b_law_s12 ρ (L11e ns n gs A []) := by
  obtain ⟨_, p, z5, z6, z7, z8, z10, z11, z12, hp, hρ⟩ := h
  obtain ⟨c1, c2, c3⟩ := U.cs
  have hn2 := G.h8
  rw [hρ]
  unfold Stg b_law_s12
  simp
  rw [p_rng1 (by omega)]
  refine each_wp (I := L11e ns n gs A) (fun d rest ρ hI => ?_) (fun ρ hI => hI) _ _ ⟨fun x hx => ?_, p, z5, z6, z7, z8, z10, z11, z12, hp, rfl⟩
  · obtain ⟨hm, p, z5, z6, z7, z8, z10, z11, z12, hp, hρ⟩ := hI
    obtain ⟨s, hs, e⟩ := hm d List.mem_cons_self
    rw [hρ, e]
    simp [chk, chkA, owIdx, md, M.wipeE]
    refine lc_filter (fun d => decide ((rowOf d).getD s 0 = (s : Int))) (fun d => d) (fun d => rfl) (fun d hd => ?_) (fun d hd _ => ?_) (by simp; omega) ?_
    · obtain ⟨r, hr, rfl⟩ := List.mem_map.mp hd
      simp
      rw [(show isSeq (tupI r) r from .inl rfl).ix (by rw [(c1 r hr).len]; exact hs), (show isSeq (tupI r) r from .inl rfl).rowOf]
      simp
    · simp
    · rw [List.nil_append, kept_self]
      simp [M.back]
      refine Out.wp.imp (shaped_rowsT (by omega) (fun g hg => by rw [(c1 g hg).len]; omega) hp 1) fun x hx => ?_
      obtain ⟨ds, dg, p, rfl, hp, hdg, hq⟩ := hx
      simp
      refine Out.wp.mono (kept_by_spec hq c3 (by omega) (fun r hr => (c1 r hr).len) (by omega) hdg (s : Int)) (fun x hx => ?_) (fun e he => absurd ⟨by omega, by omega⟩ he.2)
      rw [hx.1]
      simp
      refine Out.wp.imp (same_rows (keptF (Cs A) s) (by have := keptF_len (Cs A) s; omega) (fun r hr => by rw [(c1 r (List.mem_filter.mp hr).1).len]; omega) 3) fun x hx => ?_
      rw [show x = _ from hx]
      simp
      exact (show L11e ns n gs A rest _ from ⟨fun x hx => hm x (List.mem_cons_of_mem _ hx), p, z5, z6, z7, z8, z10, some (.int (s : Int)), some (.tup ((keptF (Cs A) s).map tupI)), hp, rfl⟩)
  · obtain ⟨s, hs, rfl⟩ := List.mem_map.mp hx
    exact ⟨s, List.mem_range.mp hs, rfl⟩
theorem st13 {ns : List Int} {n : Nat} {gs : List (List Int)} {A : List (List Int × List Int)} {ρ : Env} {K : Kt} (G : Gok n gs) (U : Due n gs A) (h : L11e ns n gs A [] ρ) (hK : ∀ ρ, K.r (.bl true) ρ) : (b_law_s13 ρ).wp K := by
  obtain ⟨_, p, z5, z6, z7, z8, z10, z11, z12, hp, hρ⟩ := h
  obtain ⟨c1, c2, c3⟩ := U.cs
  have hn2 := G.h8
  rw [hρ]
  unfold b_law_s13
  simp [chk, chkA, owIdx, md]
  refine Out.wp.mono (is_none_spec (n := n) (i := -1) c3 (by omega) (fun r hr => (c1 r hr).len) (by omega) (by omega)) (fun x hx => ?_) (fun e he => he.elim)
  rw [show x = _ from hx]
  simp
  refine take_k hp (by omega) (by omega) fun x p1 hx hp1 => ?_
  simp
  refine Out.wp.mono (is_none_spec (n := n) (i := (n : Int) + (x : Int)) c3 (by omega) (fun r hr => (c1 r hr).len) (by omega) (by omega)) (fun x hx => ?_) (fun e he => he.elim)
  rw [show x = _ from hx]
  simp
  exact hK _
theorem law_plain_wp (ns : List Int) (hl : ns.length ≤ 63) : (m_law [.scr ns]).wp Yes no := by
  unfold m_law
  rw [wp_fn]
  simp only [List.length_cons, List.length_nil, if_true, List.map_cons, List.map_nil, List.cons_append, List.nil_append, List.replicate]
  unfold b_law
  refine seq_stg _ (st0 hl) fun ρ h => ?_
  refine seq_stg _ (st1 h) fun ρ h => ?_
  obtain ⟨n, hn, hn2, h⟩ := h
  refine seq_stg _ (st2 hn hn2 h) fun ρ h => ?_
  obtain ⟨gs, G, h⟩ := h
  refine seq_stg _ (st3 G h) fun ρ h => ?_
  obtain ⟨gs, G, h⟩ := h
  obtain ⟨A, U⟩ := due_mk G
  refine seq_stg _ (st4 G U h) fun ρ h => ?_
  refine seq_stg _ (st5 G U h) fun ρ h => ?_
  refine seq_stg _ (st6 G h) fun ρ h => ?_
  obtain ⟨free, hf, h⟩ := h
  refine seq_stg _ (st7 G U hf h) fun ρ h => ?_
  refine seq_stg _ (st8 G U hf h) fun ρ h => ?_
  refine seq_stg _ (st9 G U h) fun ρ h => ?_
  refine seq_stg _ (st10 G U h) fun ρ h => ?_
  refine seq_stg _ (st11 G U h) fun ρ h => ?_
  refine seq_stg _ (st12 G U h) fun ρ h => ?_
  refine st13 G U h fun ρ => ?_
  exact rfl
theorem law_plain : ∀ ns : List Int, ns.length ≤ 63 → m_law [.scr ns] = .ok (.bl true, []) := fun ns h => eq_of_wp (by
  have h := law_plain_wp ns h
  exact h)
end PyD

set_option Elab.async false
set_option linter.all false
set_option maxRecDepth 100000
namespace PyD
open PySem L2 L2X PyProof.Rows
abbrev s_init_BadChanges : Stmt := inClass (topS 7) 0
theorem all_mk {l : PySem.W.OpenLaw} {w : World} {K : PySem.W.Frag} {h : Heap} {mg : Str → Option Value} {fa : Addr} (X : K.In h) (G0 : h.Ns mainGlobals mg) (hfa : mg "law" = some (.ref fa)) {f0 f1 f2 f3 f4 f5 f6 f7 f8 f9 f10 f11 f12 f13 f14 f15 f16 f17 f18 f19 f20 f21 f22 f23 f24 f25 : Addr}
    {C0 C1 C2 : Addr}
    {nm0 q0 : Str} {N0 : Addr} {bs0 : List Value} {sn0 : List Str} {sub0 : List Value} {ab0 : Bool} {col0 : Option Bool} {dd0 : Option Addr} {m00 m10 m20 m30 m50 : Option Value}
    {fi0 : Addr} {odi0 ani0 : Option Addr} {sli0 : Array (Option Value)} {oci0 kVi0 dci0 pmi0 cdi0 cti0 : Value}
    {od0 od1 od2 od3 od4 od5 od6 od7 od8 od9 od10 od11 od12 od13 od14 od15 od16 od17 od18 od19 od20 od21 od22 od23 od24 od25 an0 an1 an2 an3 an4 an5 an6 an7 an8 an9 an10 an11 an12 an13 an14 an15 an16 an17 an18 an19 an20 an21 an22 an23 an24 an25 : Option Addr} {sl0 sl1 sl2 sl3 sl4 sl5 sl6 sl7 sl8 sl9 sl10 sl11 sl12 sl13 sl14 sl15 sl16 sl17 sl18 sl19 sl20 sl21 sl22 sl23 sl24 sl25 : Array (Option Value)} {oc0 kV0 dc0 pm0 cd0 ct0 oc1 kV1 dc1 pm1 cd1 ct1 oc2 kV2 dc2 pm2 cd2 ct2 oc3 kV3 dc3 pm3 cd3 ct3 oc4 kV4 dc4 pm4 cd4 ct4 oc5 kV5 dc5 pm5 cd5 ct5 oc6 kV6 dc6 pm6 cd6 ct6 oc7 kV7 dc7 pm7 cd7 ct7 oc8 kV8 dc8 pm8 cd8 ct8 oc9 kV9 dc9 pm9 cd9 ct9 oc10 kV10 dc10 pm10 cd10 ct10 oc11 kV11 dc11 pm11 cd11 ct11 oc12 kV12 dc12 pm12 cd12 ct12 oc13 kV13 dc13 pm13 cd13 ct13 oc14 kV14 dc14 pm14 cd14 ct14 oc15 kV15 dc15 pm15 cd15 ct15 oc16 kV16 dc16 pm16 cd16 ct16 oc17 kV17 dc17 pm17 cd17 ct17 oc18 kV18 dc18 pm18 cd18 ct18 oc19 kV19 dc19 pm19 cd19 ct19 oc20 kV20 dc20 pm20 cd20 ct20 oc21 kV21 dc21 pm21 cd21 ct21 oc22 kV22 dc22 pm22 cd22 ct22 oc23 kV23 dc23 pm23 cd23 ct23 oc24 kV24 dc24 pm24 cd24 ct24 oc25 kV25 dc25 pm25 cd25 ct25 : Value}
    {t_LEAST_SYMBOLS t_MOST_CHANGES t_MOST_GIVEN t_MOST_SYMBOLS : Tok}
    (xa0 : PySem.W.nsIn K mainGlobals "BadChanges" = some (some (.ref C0)))
    (xa1 : PySem.W.nsIn K mainGlobals "MoveError" = some (some (.ref C1)))
    (xa2 : PySem.W.nsIn K mainGlobals "NoSymbol" = some (some (.ref C2)))
    (xr0_2 : PySem.W.subIn K (.ref C0) (.ref C2) = some false)
    (xb2 : PySem.W.subIn K (.ref C2) (.type "BaseException") = some true)
    (xd2 : PySem.W.hasDictIn K C2 = true)
    (xt2 : PySem.W.typeIn K (.ref C2) = some (.type "type"))
    (xr2_2 : PySem.W.subIn K (.ref C2) (.ref C2) = some true)
    (xg2 : PySem.W.findIn K (.ref C2) "__getattribute__" = some (some (.builtin "BaseException.__getattribute__")))
    (xh2 : PySem.W.findIn K (.ref C2) "__getattr__" = some none)
    (xu2 : PySem.W.isClsIn K C2 = true)
    (xv2 : PySem.W.findIn K (.ref C2) "__class__" = some (some (.builtin "object.__class__")))
    (xw0 : PySem.W.specialIn K (.builtin "object.__class__") "__get__" = some (some (.builtin "getset_descriptor.__get__")))
    (xw1 : PySem.W.takesIn K (.builtin "object.__class__") = some true)
    (xz2 : PySem.W.mroIn K C2 (.type "object") = some true)
    (xl0 : K.lookup C0 = some (excClassObj nm0 q0 C0 N0 bs0 [.ref C1, .type "ValueError", .type "Exception", .type "BaseException", .type "object"] true sn0 sub0 ab0 col0 dd0 m00 m10 m20 m30 m50 "ValueError.__new__"))
    (xs0 : PySem.W.findIn K (.ref C0) "__setattr__" = some (some (.builtin "object.__setattr__")))
    (xn0_number : PySem.W.findIn K (.ref C0) "number" = some none)
    (xn0_reason : PySem.W.findIn K (.ref C0) "reason" = some none)
    (xi0 : PySem.W.findIn K (.ref C0) "__init__" = some (some (.ref fi0)))
    (xf0 : PySem.W.typeIn K (.ref fi0) = some (.type "function"))
    (xp0 : K.lookup fi0 = some ⟨oci0, odi0, .func (PySem.W.fnOf "__init__" "BadChanges.__init__" (defArgs s_init_BadChanges) (defBody s_init_BadChanges) (defScope s_init_BadChanges) .none kVi0 dci0 pmi0 ani0 cdi0 cti0), sli0⟩)
    (xc0 : PySem.W.codeIn K cdi0 "BadChanges.__init__" = true)
    (xo0 : PySem.W.keepIn K (.ref fi0) = true)
    (xb0 : PySem.W.subIn K (.ref C0) (.type "BaseException") = some true)
    (xt0 : PySem.W.typeIn K (.ref C0) = some (.type "type"))
    (xk0 : PySem.W.keepIn K (.ref C0) = true)
    (xu1 : PySem.W.isClsIn K C1 = true)
    (xr2_1 : PySem.W.subIn K (.ref C2) (.ref C1) = some true)
    (xt1 : PySem.W.typeIn K (.ref C1) = some (.type "type"))
    (xq2 : PySem.W.excIn K C2 [.type "ValueError", .type "Exception", .type "BaseException", .type "object"] "ValueError.__new__" = true)
    (xk2 : PySem.W.keepIn K (.ref C2) = true)
    (a0 : PySem.W.nsIn K mainGlobals "_law_blocks" = some (some (.ref f0))) (l0 : K.lookup f0 = some ⟨oc0, od0, .func (PySem.W.fnOf "_law_blocks" "_law_blocks" (defArgs s_law_blocks) (defBody s_law_blocks) (defScope s_law_blocks) .none kV0 dc0 pm0 an0 cd0 ct0), sl0⟩) (c0 : PySem.W.codeIn K cd0 "_law_blocks" = true) (k0 : PySem.W.keepIn K (.ref f0) = true)
    (a1 : PySem.W.nsIn K mainGlobals "_law_composed" = some (some (.ref f1))) (l1 : K.lookup f1 = some ⟨oc1, od1, .func (PySem.W.fnOf "_law_composed" "_law_composed" (defArgs s_law_composed) (defBody s_law_composed) (defScope s_law_composed) .none kV1 dc1 pm1 an1 cd1 ct1), sl1⟩) (c1 : PySem.W.codeIn K cd1 "_law_composed" = true) (k1 : PySem.W.keepIn K (.ref f1) = true)
    (a2 : PySem.W.nsIn K mainGlobals "_law_round" = some (some (.ref f2))) (l2 : K.lookup f2 = some ⟨oc2, od2, .func (PySem.W.fnOf "_law_round" "_law_round" (defArgs s_law_round) (defBody s_law_round) (defScope s_law_round) .none kV2 dc2 pm2 an2 cd2 ct2), sl2⟩) (c2 : PySem.W.codeIn K cd2 "_law_round" = true) (k2 : PySem.W.keepIn K (.ref f2) = true)
    (a3 : PySem.W.nsIn K mainGlobals "_law_take" = some (some (.ref f3))) (l3 : K.lookup f3 = some ⟨oc3, od3, .func (PySem.W.fnOf "_law_take" "_law_take" (defArgs s_law_take) (defBody s_law_take) (defScope s_law_take) .none kV3 dc3 pm3 an3 cd3 ct3), sl3⟩) (c3 : PySem.W.codeIn K cd3 "_law_take" = true) (k3 : PySem.W.keepIn K (.ref f3) = true)
    (a4 : PySem.W.nsIn K mainGlobals "_law_some" = some (some (.ref f4))) (l4 : K.lookup f4 = some ⟨oc4, od4, .func (PySem.W.fnOf "_law_some" "_law_some" (defArgs s_law_some) (defBody s_law_some) (defScope s_law_some) .none kV4 dc4 pm4 an4 cd4 ct4), sl4⟩) (c4 : PySem.W.codeIn K cd4 "_law_some" = true) (k4 : PySem.W.keepIn K (.ref f4) = true)
    (a5 : PySem.W.nsIn K mainGlobals "_law_candidate" = some (some (.ref f5))) (l5 : K.lookup f5 = some ⟨oc5, od5, .func (PySem.W.fnOf "_law_candidate" "_law_candidate" (defArgs s_law_candidate) (defBody s_law_candidate) (defScope s_law_candidate) .none kV5 dc5 pm5 an5 cd5 ct5), sl5⟩) (c5 : PySem.W.codeIn K cd5 "_law_candidate" = true) (k5 : PySem.W.keepIn K (.ref f5) = true)
    (a6 : PySem.W.nsIn K mainGlobals "_law_closed" = some (some (.ref f6))) (l6 : K.lookup f6 = some ⟨oc6, od6, .func (PySem.W.fnOf "_law_closed" "_law_closed" (defArgs s_law_closed) (defBody s_law_closed) (defScope s_law_closed) .none kV6 dc6 pm6 an6 cd6 ct6), sl6⟩) (c6 : PySem.W.codeIn K cd6 "_law_closed" = true) (k6 : PySem.W.keepIn K (.ref f6) = true)
    (a7 : PySem.W.nsIn K mainGlobals "_law_many_given" = some (some (.ref f7))) (l7 : K.lookup f7 = some ⟨oc7, od7, .func (PySem.W.fnOf "_law_many_given" "_law_many_given" (defArgs s_law_many_given) (defBody s_law_many_given) (defScope s_law_many_given) .none kV7 dc7 pm7 an7 cd7 ct7), sl7⟩) (c7 : PySem.W.codeIn K cd7 "_law_many_given" = true) (k7 : PySem.W.keepIn K (.ref f7) = true)
    (a8 : PySem.W.nsIn K mainGlobals "_law_given" = some (some (.ref f8))) (l8 : K.lookup f8 = some ⟨oc8, od8, .func (PySem.W.fnOf "_law_given" "_law_given" (defArgs s_law_given) (defBody s_law_given) (defScope s_law_given) .none kV8 dc8 pm8 an8 cd8 ct8), sl8⟩) (c8 : PySem.W.codeIn K cd8 "_law_given" = true) (k8 : PySem.W.keepIn K (.ref f8) = true)
    (a9 : PySem.W.nsIn K mainGlobals "kept_by" = some (some (.ref f9))) (l9 : K.lookup f9 = some ⟨oc9, od9, .func (PySem.W.fnOf "kept_by" "kept_by" (defArgs s_kept_by) (defBody s_kept_by) (defScope s_kept_by) .none kV9 dc9 pm9 an9 cd9 ct9), sl9⟩) (c9 : PySem.W.codeIn K cd9 "kept_by" = true) (k9 : PySem.W.keepIn K (.ref f9) = true)
    (a10 : PySem.W.nsIn K mainGlobals "_law_is_none" = some (some (.ref f10))) (l10 : K.lookup f10 = some ⟨oc10, od10, .func (PySem.W.fnOf "_law_is_none" "_law_is_none" (defArgs s_law_is_none) (defBody s_law_is_none) (defScope s_law_is_none) .none kV10 dc10 pm10 an10 cd10 ct10), sl10⟩) (c10 : PySem.W.codeIn K cd10 "_law_is_none" = true) (k10 : PySem.W.keepIn K (.ref f10) = true)
    (a11 : PySem.W.nsIn K mainGlobals "_law_pick" = some (some (.ref f11))) (l11 : K.lookup f11 = some ⟨oc11, od11, .func (PySem.W.fnOf "_law_pick" "_law_pick" (defArgs s_law_pick) (defBody s_law_pick) (defScope s_law_pick) .none kV11 dc11 pm11 an11 cd11 ct11), sl11⟩) (c11 : PySem.W.codeIn K cd11 "_law_pick" = true) (k11 : PySem.W.keepIn K (.ref f11) = true)
    (a12 : PySem.W.nsIn K mainGlobals "_law_pool" = some (some (.ref f12))) (l12 : K.lookup f12 = some ⟨oc12, od12, .func (PySem.W.fnOf "_law_pool" "_law_pool" (defArgs s_law_pool) (defBody s_law_pool) (defScope s_law_pool) .none kV12 dc12 pm12 an12 cd12 ct12), sl12⟩) (c12 : PySem.W.codeIn K cd12 "_law_pool" = true) (k12 : PySem.W.keepIn K (.ref f12) = true)
    (a13 : PySem.W.nsIn K mainGlobals "_law_is_integer" = some (some (.ref f13))) (l13 : K.lookup f13 = some ⟨oc13, od13, .func (PySem.W.fnOf "_law_is_integer" "_law_is_integer" (defArgs s_law_is_integer) (defBody s_law_is_integer) (defScope s_law_is_integer) .none kV13 dc13 pm13 an13 cd13 ct13), sl13⟩) (c13 : PySem.W.codeIn K cd13 "_law_is_integer" = true) (k13 : PySem.W.keepIn K (.ref f13) = true)
    (a14 : PySem.W.nsIn K mainGlobals "_law_same" = some (some (.ref f14))) (l14 : K.lookup f14 = some ⟨oc14, od14, .func (PySem.W.fnOf "_law_same" "_law_same" (defArgs s_law_same) (defBody s_law_same) (defScope s_law_same) .none kV14 dc14 pm14 an14 cd14 ct14), sl14⟩) (c14 : PySem.W.codeIn K cd14 "_law_same" = true) (k14 : PySem.W.keepIn K (.ref f14) = true)
    (a15 : PySem.W.nsIn K mainGlobals "_law_shaped" = some (some (.ref f15))) (l15 : K.lookup f15 = some ⟨oc15, od15, .func (PySem.W.fnOf "_law_shaped" "_law_shaped" (defArgs s_law_shaped) (defBody s_law_shaped) (defScope s_law_shaped) .none kV15 dc15 pm15 an15 cd15 ct15), sl15⟩) (c15 : PySem.W.codeIn K cd15 "_law_shaped" = true) (k15 : PySem.W.keepIn K (.ref f15) = true)
    (a16 : PySem.W.nsIn K mainGlobals "_law_symbol_orbits" = some (some (.ref f16))) (l16 : K.lookup f16 = some ⟨oc16, od16, .func (PySem.W.fnOf "_law_symbol_orbits" "_law_symbol_orbits" (defArgs s_law_symbol_orbits) (defBody s_law_symbol_orbits) (defScope s_law_symbol_orbits) .none kV16 dc16 pm16 an16 cd16 ct16), sl16⟩) (c16 : PySem.W.codeIn K cd16 "_law_symbol_orbits" = true) (k16 : PySem.W.keepIn K (.ref f16) = true)
    (a17 : PySem.W.nsIn K mainGlobals "_law_ways" = some (some (.ref f17))) (l17 : K.lookup f17 = some ⟨oc17, od17, .func (PySem.W.fnOf "_law_ways" "_law_ways" (defArgs s_law_ways) (defBody s_law_ways) (defScope s_law_ways) .none kV17 dc17 pm17 an17 cd17 ct17), sl17⟩) (c17 : PySem.W.codeIn K cd17 "_law_ways" = true) (k17 : PySem.W.keepIn K (.ref f17) = true)
    (a18 : PySem.W.nsIn K mainGlobals "symbol_orbits" = some (some (.ref f18))) (l18 : K.lookup f18 = some ⟨oc18, od18, .func (PySem.W.fnOf "symbol_orbits" "symbol_orbits" (defArgs s_symbol_orbits) (defBody s_symbol_orbits) (defScope s_symbol_orbits) .none kV18 dc18 pm18 an18 cd18 ct18), sl18⟩) (c18 : PySem.W.codeIn K cd18 "symbol_orbits" = true) (k18 : PySem.W.keepIn K (.ref f18) = true)
    (a19 : PySem.W.nsIn K mainGlobals "fault_of" = some (some (.ref f19))) (l19 : K.lookup f19 = some ⟨oc19, od19, .func (PySem.W.fnOf "fault_of" "fault_of" (defArgs s_fault_of) (defBody s_fault_of) (defScope s_fault_of) .none kV19 dc19 pm19 an19 cd19 ct19), sl19⟩) (c19 : PySem.W.codeIn K cd19 "fault_of" = true) (k19 : PySem.W.keepIn K (.ref f19) = true)
    (a20 : PySem.W.nsIn K mainGlobals "settled_changes" = some (some (.ref f20))) (l20 : K.lookup f20 = some ⟨oc20, od20, .func (PySem.W.fnOf "settled_changes" "settled_changes" (defArgs s_settled_changes) (defBody s_settled_changes) (defScope s_settled_changes) .none kV20 dc20 pm20 an20 cd20 ct20), sl20⟩) (c20 : PySem.W.codeIn K cd20 "settled_changes" = true) (k20 : PySem.W.keepIn K (.ref f20) = true)
    (a21 : PySem.W.nsIn K mainGlobals "composed" = some (some (.ref f21))) (l21 : K.lookup f21 = some ⟨oc21, od21, .func (PySem.W.fnOf "composed" "composed" (defArgs s_composed) (defBody s_composed) (defScope s_composed) .none kV21 dc21 pm21 an21 cd21 ct21), sl21⟩) (c21 : PySem.W.codeIn K cd21 "composed" = true) (k21 : PySem.W.keepIn K (.ref f21) = true)
    (a22 : PySem.W.nsIn K mainGlobals "unmoved" = some (some (.ref f22))) (l22 : K.lookup f22 = some ⟨oc22, od22, .func (PySem.W.fnOf "unmoved" "unmoved" (defArgs s_unmoved) (defBody s_unmoved) (defScope s_unmoved) .none kV22 dc22 pm22 an22 cd22 ct22), sl22⟩) (c22 : PySem.W.codeIn K cd22 "unmoved" = true) (k22 : PySem.W.keepIn K (.ref f22) = true)
    (a23 : PySem.W.nsIn K mainGlobals "ways" = some (some (.ref f23))) (l23 : K.lookup f23 = some ⟨oc23, od23, .func (PySem.W.fnOf "ways" "ways" (defArgs s_ways) (defBody s_ways) (defScope s_ways) .none kV23 dc23 pm23 an23 cd23 ct23), sl23⟩) (c23 : PySem.W.codeIn K cd23 "ways" = true) (k23 : PySem.W.keepIn K (.ref f23) = true)
    (a24 : PySem.W.nsIn K mainGlobals "way_to" = some (some (.ref f24))) (l24 : K.lookup f24 = some ⟨oc24, od24, .func (PySem.W.fnOf "way_to" "way_to" (defArgs s_way_to) (defBody s_way_to) (defScope s_way_to) .none kV24 dc24 pm24 an24 cd24 ct24), sl24⟩) (c24 : PySem.W.codeIn K cd24 "way_to" = true) (k24 : PySem.W.keepIn K (.ref f24) = true)
    (a25 : PySem.W.nsIn K mainGlobals "law" = some (some (.ref f25))) (l25 : K.lookup f25 = some ⟨oc25, od25, .func (PySem.W.fnOf "law" "law" (defArgs s_law) (defBody s_law) (defScope s_law) .none kV25 dc25 pm25 an25 cd25 ct25), sl25⟩) (c25 : PySem.W.codeIn K cd25 "law" = true) (k25 : PySem.W.keepIn K (.ref f25) = true)
    (z_all : PySem.W.nsIn K mainGlobals "all" = some none)
    (z_bool : PySem.W.nsIn K mainGlobals "bool" = some none)
    (z_enumerate : PySem.W.nsIn K mainGlobals "enumerate" = some none)
    (z_int : PySem.W.nsIn K mainGlobals "int" = some none)
    (z_isinstance : PySem.W.nsIn K mainGlobals "isinstance" = some none)
    (z_len : PySem.W.nsIn K mainGlobals "len" = some none)
    (z_list : PySem.W.nsIn K mainGlobals "list" = some none)
    (z_min : PySem.W.nsIn K mainGlobals "min" = some none)
    (z_range : PySem.W.nsIn K mainGlobals "range" = some none)
    (z_set : PySem.W.nsIn K mainGlobals "set" = some none)
    (z_sorted : PySem.W.nsIn K mainGlobals "sorted" = some none)
    (z_str : PySem.W.nsIn K mainGlobals "str" = some none)
    (z_tuple : PySem.W.nsIn K mainGlobals "tuple" = some none)
    (v_LEAST_SYMBOLS : PySem.W.nsIn K mainGlobals "LEAST_SYMBOLS" = some (some (.int 2 t_LEAST_SYMBOLS)))
    (v_MOST_CHANGES : PySem.W.nsIn K mainGlobals "MOST_CHANGES" = some (some (.int 24 t_MOST_CHANGES)))
    (v_MOST_GIVEN : PySem.W.nsIn K mainGlobals "MOST_GIVEN" = some (some (.int 3 t_MOST_GIVEN)))
    (v_MOST_SYMBOLS : PySem.W.nsIn K mainGlobals "MOST_SYMBOLS" = some (some (.int 8 t_MOST_SYMBOLS)))
    : ∃ fd : FuncData, (∀ (s : Shared) (v : Value), BindsTo s fd ⟨[v], []⟩ [("script", v)]) ∧ ∀ base : Heap, K.In base → base.Ns mainGlobals mg → FnOk l.prog w K mg base (L2.CX l.prog w) 10 fa fd ["script"] (spLaw K) := by
  have e := hfa.symm.trans (PySem.W.mg_of X G0 a25)
  cases e
  refine ⟨PySem.W.fnOf "law" "law" (defArgs s_law) (defBody s_law) (defScope s_law) .none kV25 dc25 pm25 an25 cd25 ct25, fun s v => .of_eq rfl, fun base _ _ => ?_⟩
  let g : G := ⟨l.prog, w, K, mg, base, fun c => (([("BadChanges", C0), ("MoveError", C1), ("NoSymbol", C2)] : List (Str × Addr)).lookup c).getD 0⟩
  have hC0 : g.cA "BadChanges" = C0 := rfl
  have hC1 : g.cA "MoveError" = C1 := rfl
  have hC2 : g.cA "NoSymbol" = C2 := rfl
  have TI0 : OexC K C0 := ⟨⟨nm0, q0, N0, bs0, _, sn0, sub0, ab0, col0, dd0, m00, m10, m20, m30, m50, xl0, rfl⟩, xs0, xb0, xt0, xk0⟩
  have FI0 := fun_mk (st := s_init_BadChanges) xp0 xc0 xo0
  have T : Txt g := ⟨PySem.W.mg_none_of X G0 z_all, PySem.W.mg_none_of X G0 z_bool, PySem.W.mg_none_of X G0 z_enumerate, PySem.W.mg_none_of X G0 z_int, PySem.W.mg_none_of X G0 z_isinstance, PySem.W.mg_none_of X G0 z_len, PySem.W.mg_none_of X G0 z_list, PySem.W.mg_none_of X G0 z_min, PySem.W.mg_none_of X G0 z_range, PySem.W.mg_none_of X G0 z_set, PySem.W.mg_none_of X G0 z_sorted, PySem.W.mg_none_of X G0 z_str, PySem.W.mg_none_of X G0 z_tuple, ⟨_, PySem.W.mg_of X G0 v_LEAST_SYMBOLS⟩, ⟨_, PySem.W.mg_of X G0 v_MOST_CHANGES⟩, ⟨_, PySem.W.mg_of X G0 v_MOST_GIVEN⟩, ⟨_, PySem.W.mg_of X G0 v_MOST_SYMBOLS⟩, PySem.W.exm_ref xb2 xd2 xt2 xr0_2, PySem.W.exm_ref xb2 xd2 xt2 xr2_2, ⟨⟨xg2, xh2, xb2, xd2⟩, xu2, xv2, xw0, xw1, xz2⟩, ⟨TI0, PySem.W.mg_of X G0 xa0, ⟨_, _, xi0, xf0, FI0.binds (fun _ _ _ _ _ _ us hl => match us, hl with | [_, _, _], _ => rfl), ini_2 FI0 TI0 xn0_number xn0_reason (by decide) (fun _ _ _ _ _ _ => pss_cons (ps_ost (pv 0) (pv 1)) (pss_one (ps_ost (pv 0) (pv 2)))) (by decide +kernel)⟩⟩, kit_sub xu1 xt1 xr2_1, PySem.W.mg_of X G0 xa0, PySem.W.mg_of X G0 xa1, PySem.W.mg_of X G0 xa2, ⟨xq2, PySem.W.mg_of X G0 xa2, xk2, xb2, xt2⟩⟩
  have D0 : Dfn g "_law_blocks" s_law_blocks ["symbols", "size"] := dfn_mk (fun_mk (st := s_law_blocks) l0 c0 k0) (PySem.W.mg_of X G0 a0) fun _ _ _ _ _ _ us hl => match us, hl with | [_, _], _ => rfl
  have D1 : Dfn g "_law_composed" s_law_composed ["first", "second"] := dfn_mk (fun_mk (st := s_law_composed) l1 c1 k1) (PySem.W.mg_of X G0 a1) fun _ _ _ _ _ _ us hl => match us, hl with | [_, _], _ => rfl
  have D2 : Dfn g "_law_round" s_law_round ["symbols", "row"] := dfn_mk (fun_mk (st := s_law_round) l2 c2 k2) (PySem.W.mg_of X G0 a2) fun _ _ _ _ _ _ us hl => match us, hl with | [_, _], _ => rfl
  have D3 : Dfn g "_law_take" s_law_take ["pool", "many"] := dfn_mk (fun_mk (st := s_law_take) l3 c3 k3) (PySem.W.mg_of X G0 a3) fun _ _ _ _ _ _ us hl => match us, hl with | [_, _], _ => rfl
  have D4 : Dfn g "_law_some" s_law_some ["pool", "rows", "many"] := dfn_mk (fun_mk (st := s_law_some) l4 c4 k4) (PySem.W.mg_of X G0 a4) fun _ _ _ _ _ _ us hl => match us, hl with | [_, _, _], _ => rfl
  have D5 : Dfn g "_law_candidate" s_law_candidate ["pool", "symbols"] := dfn_mk (fun_mk (st := s_law_candidate) l5 c5 k5) (PySem.W.mg_of X G0 a5) fun _ _ _ _ _ _ us hl => match us, hl with | [_, _], _ => rfl
  have D6 : Dfn g "_law_closed" s_law_closed ["symbols", "given"] := dfn_mk (fun_mk (st := s_law_closed) l6 c6 k6) (PySem.W.mg_of X G0 a6) fun _ _ _ _ _ _ us hl => match us, hl with | [_, _], _ => rfl
  have D7 : Dfn g "_law_many_given" s_law_many_given ["pool", "symbols"] := dfn_mk (fun_mk (st := s_law_many_given) l7 c7 k7) (PySem.W.mg_of X G0 a7) fun _ _ _ _ _ _ us hl => match us, hl with | [_, _], _ => rfl
  have D8 : Dfn g "_law_given" s_law_given ["pool", "symbols"] := dfn_mk (fun_mk (st := s_law_given) l8 c8 k8) (PySem.W.mg_of X G0 a8) fun _ _ _ _ _ _ us hl => match us, hl with | [_, _], _ => rfl
  have D9 : Dfn g "kept_by" s_kept_by ["changes", "symbol"] := dfn_mk (fun_mk (st := s_kept_by) l9 c9 k9) (PySem.W.mg_of X G0 a9) fun _ _ _ _ _ _ us hl => match us, hl with | [_, _], _ => rfl
  have D10 : Dfn g "_law_is_none" s_law_is_none ["changes", "symbol"] := dfn_mk (fun_mk (st := s_law_is_none) l10 c10 k10) (PySem.W.mg_of X G0 a10) fun _ _ _ _ _ _ us hl => match us, hl with | [_, _], _ => rfl
  have D11 : Dfn g "_law_pick" s_law_pick ["pool", "rows"] := dfn_mk (fun_mk (st := s_law_pick) l11 c11 k11) (PySem.W.mg_of X G0 a11) fun _ _ _ _ _ _ us hl => match us, hl with | [_, _], _ => rfl
  have D12 : Dfn g "_law_pool" s_law_pool ["script"] := dfn_mk (fun_mk (st := s_law_pool) l12 c12 k12) (PySem.W.mg_of X G0 a12) fun _ _ _ _ _ _ us hl => match us, hl with | [_], _ => rfl
  have D13 : Dfn g "_law_is_integer" s_law_is_integer ["actual"] := dfn_mk (fun_mk (st := s_law_is_integer) l13 c13 k13) (PySem.W.mg_of X G0 a13) fun _ _ _ _ _ _ us hl => match us, hl with | [_], _ => rfl
  have D14 : Dfn g "_law_same" s_law_same ["actual", "due"] := dfn_mk (fun_mk (st := s_law_same) l14 c14 k14) (PySem.W.mg_of X G0 a14) fun _ _ _ _ _ _ us hl => match us, hl with | [_, _], _ => rfl
  have D15 : Dfn g "_law_shaped" s_law_shaped ["pool", "value"] := dfn_mk (fun_mk (st := s_law_shaped) l15 c15 k15) (PySem.W.mg_of X G0 a15) fun _ _ _ _ _ _ us hl => match us, hl with | [_, _], _ => rfl
  have D16 : Dfn g "_law_symbol_orbits" s_law_symbol_orbits ["symbols", "changes"] := dfn_mk (fun_mk (st := s_law_symbol_orbits) l16 c16 k16) (PySem.W.mg_of X G0 a16) fun _ _ _ _ _ _ us hl => match us, hl with | [_, _], _ => rfl
  have D17 : Dfn g "_law_ways" s_law_ways ["symbols", "given"] := dfn_mk (fun_mk (st := s_law_ways) l17 c17 k17) (PySem.W.mg_of X G0 a17) fun _ _ _ _ _ _ us hl => match us, hl with | [_, _], _ => rfl
  have D18 : Dfn g "symbol_orbits" s_symbol_orbits ["changes"] := dfn_mk (fun_mk (st := s_symbol_orbits) l18 c18 k18) (PySem.W.mg_of X G0 a18) fun _ _ _ _ _ _ us hl => match us, hl with | [_], _ => rfl
  have D19 : Dfn g "fault_of" s_fault_of ["symbols", "change"] := dfn_mk (fun_mk (st := s_fault_of) l19 c19 k19) (PySem.W.mg_of X G0 a19) fun _ _ _ _ _ _ us hl => match us, hl with | [_, _], _ => rfl
  have D20 : Dfn g "settled_changes" s_settled_changes ["symbols", "given"] := dfn_mk (fun_mk (st := s_settled_changes) l20 c20 k20) (PySem.W.mg_of X G0 a20) fun _ _ _ _ _ _ us hl => match us, hl with | [_, _], _ => rfl
  have D21 : Dfn g "composed" s_composed ["first", "second"] := dfn_mk (fun_mk (st := s_composed) l21 c21 k21) (PySem.W.mg_of X G0 a21) fun _ _ _ _ _ _ us hl => match us, hl with | [_, _], _ => rfl
  have D22 : Dfn g "unmoved" s_unmoved ["symbols"] := dfn_mk (fun_mk (st := s_unmoved) l22 c22 k22) (PySem.W.mg_of X G0 a22) fun _ _ _ _ _ _ us hl => match us, hl with | [_], _ => rfl
  have D23 : Dfn g "ways" s_ways ["symbols", "given"] := dfn_mk (fun_mk (st := s_ways) l23 c23 k23) (PySem.W.mg_of X G0 a23) fun _ _ _ _ _ _ us hl => match us, hl with | [_, _], _ => rfl
  have D24 : Dfn g "way_to" s_way_to ["symbols", "given", "change"] := dfn_mk (fun_mk (st := s_way_to) l24 c24 k24) (PySem.W.mg_of X G0 a24) fun _ _ _ _ _ _ us hl => match us, hl with | [_, _, _], _ => rfl
  have Z : Dfs g := ⟨D0, D1, D2, D3, D4, D5, D6, D7, D8, D9, D10, D11, D12, D13, D14, D15, D16, D17, D18, D19, D20, D21, D22, D23, D24⟩
  exact (c_law T Z (fun_mk (st := s_law) l25 c25 k25)).imp fun vs H Q E h => law_sp law_plain vs H Q E h
end PyD
open PySem PySem.W PyProof.Rows in
set_option maxRecDepth 100000 in
set_option maxHeartbeats 0 in
theorem PySem.Challenge.cw_moveseen_k03_ways_and_orbits_holds : PySem.Challenge.rw_moveseen_k03_ways_and_orbits.Holds := by
  w_on; o_law; k_head; (case hw => w_witness2)
  k_fill
  refine PyD.walk_law (l := PySem.Challenge.rw_moveseen_k03_ways_and_orbits) 10 rfl rfl ⟨rfl, by decide, by decide⟩ (fun w h Y => PySem.W.kIn_of Y) ?F
  case F =>
    intro w mg fa h KX G hmg
    refine' PyD.all_mk KX G hmg ?xa0 ?xa1 ?xa2 ?xr0_2 ?xb2 ?xd2 ?xt2 ?xr2_2 ?xg2 ?xh2 ?xu2 ?xv2 ?xw0 ?xw1 ?xz2 ?xl0 ?xs0 ?xn0_number ?xn0_reason ?xi0 ?xf0 ?xp0 ?xc0 ?xo0 ?xb0 ?xt0 ?xk0 ?xu1 ?xr2_1 ?xt1 ?xq2 ?xk2 ?a0 ?l0 ?c0 ?k0 ?a1 ?l1 ?c1 ?k1 ?a2 ?l2 ?c2 ?k2 ?a3 ?l3 ?c3 ?k3 ?a4 ?l4 ?c4 ?k4 ?a5 ?l5 ?c5 ?k5 ?a6 ?l6 ?c6 ?k6 ?a7 ?l7 ?c7 ?k7 ?a8 ?l8 ?c8 ?k8 ?a9 ?l9 ?c9 ?k9 ?a10 ?l10 ?c10 ?k10 ?a11 ?l11 ?c11 ?k11 ?a12 ?l12 ?c12 ?k12 ?a13 ?l13 ?c13 ?k13 ?a14 ?l14 ?c14 ?k14 ?a15 ?l15 ?c15 ?k15 ?a16 ?l16 ?c16 ?k16 ?a17 ?l17 ?c17 ?k17 ?a18 ?l18 ?c18 ?k18 ?a19 ?l19 ?c19 ?k19 ?a20 ?l20 ?c20 ?k20 ?a21 ?l21 ?c21 ?k21 ?a22 ?l22 ?c22 ?k22 ?a23 ?l23 ?c23 ?k23 ?a24 ?l24 ?c24 ?k24 ?a25 ?l25 ?c25 ?k25 ?z_all ?z_bool ?z_enumerate ?z_int ?z_isinstance ?z_len ?z_list ?z_min ?z_range ?z_set ?z_sorted ?z_str ?z_tuple ?v_LEAST_SYMBOLS ?v_MOST_CHANGES ?v_MOST_GIVEN ?v_MOST_SYMBOLS
    (case xa0 => k_is)
    (case xa1 => k_is)
    (case xa2 => k_is)
    (case xr0_2 => k_is)
    (case xb2 => k_is)
    (case xd2 => k_is)
    (case xt2 => k_is)
    (case xr2_2 => first | rfl | k_is)
    (case xg2 => k_is)
    (case xh2 => k_is)
    (case xu2 => k_is)
    (case xv2 => k_is)
    (case xw0 => k_is)
    (case xw1 => k_is)
    (case xz2 => k_is)
    (case xl0 => k_is)
    (case xs0 => k_is)
    (case xn0_number => k_is)
    (case xn0_reason => k_is)
    (case xi0 => k_is)
    (case xf0 => k_is)
    (case xp0 => k_is)
    (case xc0 => k_is)
    (case xo0 => k_is)
    (case xb0 => k_is)
    (case xt0 => k_is)
    (case xk0 => k_is)
    (case xu1 => k_is)
    (case xr2_1 => k_is)
    (case xt1 => k_is)
    (case xq2 => k_exc)
    (case xk2 => k_is)
    (case a0 => k_is)
    (case l0 => k_is)
    (case c0 => k_is)
    (case k0 => k_is)
    (case a1 => k_is)
    (case l1 => k_is)
    (case c1 => k_is)
    (case k1 => k_is)
    (case a2 => k_is)
    (case l2 => k_is)
    (case c2 => k_is)
    (case k2 => k_is)
    (case a3 => k_is)
    (case l3 => k_is)
    (case c3 => k_is)
    (case k3 => k_is)
    (case a4 => k_is)
    (case l4 => k_is)
    (case c4 => k_is)
    (case k4 => k_is)
    (case a5 => k_is)
    (case l5 => k_is)
    (case c5 => k_is)
    (case k5 => k_is)
    (case a6 => k_is)
    (case l6 => k_is)
    (case c6 => k_is)
    (case k6 => k_is)
    (case a7 => k_is)
    (case l7 => k_is)
    (case c7 => k_is)
    (case k7 => k_is)
    (case a8 => k_is)
    (case l8 => k_is)
    (case c8 => k_is)
    (case k8 => k_is)
    (case a9 => k_is)
    (case l9 => k_is)
    (case c9 => k_is)
    (case k9 => k_is)
    (case a10 => k_is)
    (case l10 => k_is)
    (case c10 => k_is)
    (case k10 => k_is)
    (case a11 => k_is)
    (case l11 => k_is)
    (case c11 => k_is)
    (case k11 => k_is)
    (case a12 => k_is)
    (case l12 => k_is)
    (case c12 => k_is)
    (case k12 => k_is)
    (case a13 => k_is)
    (case l13 => k_is)
    (case c13 => k_is)
    (case k13 => k_is)
    (case a14 => k_is)
    (case l14 => k_is)
    (case c14 => k_is)
    (case k14 => k_is)
    (case a15 => k_is)
    (case l15 => k_is)
    (case c15 => k_is)
    (case k15 => k_is)
    (case a16 => k_is)
    (case l16 => k_is)
    (case c16 => k_is)
    (case k16 => k_is)
    (case a17 => k_is)
    (case l17 => k_is)
    (case c17 => k_is)
    (case k17 => k_is)
    (case a18 => k_is)
    (case l18 => k_is)
    (case c18 => k_is)
    (case k18 => k_is)
    (case a19 => k_is)
    (case l19 => k_is)
    (case c19 => k_is)
    (case k19 => k_is)
    (case a20 => k_is)
    (case l20 => k_is)
    (case c20 => k_is)
    (case k20 => k_is)
    (case a21 => k_is)
    (case l21 => k_is)
    (case c21 => k_is)
    (case k21 => k_is)
    (case a22 => k_is)
    (case l22 => k_is)
    (case c22 => k_is)
    (case k22 => k_is)
    (case a23 => k_is)
    (case l23 => k_is)
    (case c23 => k_is)
    (case k23 => k_is)
    (case a24 => k_is)
    (case l24 => k_is)
    (case c24 => k_is)
    (case k24 => k_is)
    (case a25 => k_is)
    (case l25 => k_is)
    (case c25 => k_is)
    (case k25 => k_is)
    (case z_all => k_is)
    (case z_bool => k_is)
    (case z_enumerate => k_is)
    (case z_int => k_is)
    (case z_isinstance => k_is)
    (case z_len => k_is)
    (case z_list => k_is)
    (case z_min => k_is)
    (case z_range => k_is)
    (case z_set => k_is)
    (case z_sorted => k_is)
    (case z_str => k_is)
    (case z_tuple => k_is)
    (case v_LEAST_SYMBOLS => k_is)
    (case v_MOST_CHANGES => k_is)
    (case v_MOST_GIVEN => k_is)
    (case v_MOST_SYMBOLS => k_is)
#print axioms PySem.Challenge.cw_moveseen_k03_ways_and_orbits_holds

