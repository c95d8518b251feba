import PyProof.Rows.All
import Wide.All
import OpenK.AllK
import Wide.FinOn
import HandS.Dict
import HandS.DictTup
import HandS.Conv
import HandS.List
import KE.KDictKeyed
import HandS.ForMost
import HandS.Walk
import HandS.Gcd
import HandS.Wide
import HandS.Deep
import HandS.IsInst
import HandS.Comp
import KE.KMathG
import KE.KExcSuper
import HandS.ExcInit
import HandS.SortKw
import KE.DatumOrd
import HandS.MakeKwOnly
import HandS.More
import HandS.OwnEq
import HandS.Codes
import HandS.TupLen
import HandS.WordsDict
import HandS.SetFor
import HandS.NamedTupSort
import HandS.TupAny
import HandS.Zip
import KE.SortData
import HandS.FStr
import HandS.Text
import KE.KIntText
import PyProof.Rows.TupDisplay
import HandS.ExcOwn
import HandS.ExcField
import KE.GoesRaise
import HandS.ExcIs
import KE.KExcIs
import KE.IntTextLaws
import PyProof.StrLawsTight
import PyProof.StrLawsChain
import PySem.Challenge.RW_metronet_k21_texts_that_are_refused
set_option Elab.async false
set_option linter.all false
set_option maxRecDepth 100000
set_option maxHeartbeats 4000000
/-! Dicts whose keys are pairs of pairs of ints, with True behind each: rules over the abstract heap. -/
namespace Vl
open PySem PySem.Spec PyProof.Rows L2
abbrev Q4 := (Int × Int) × (Int × Int)
def nkN (q : Q4) : NestedKey := .tup [.tup [.num q.1.1, .num q.1.2], .tup [.num q.2.1, .num q.2.2]]
theorem nkN_inj {a b : Q4} (h : nkN a = nkN b) : a = b := by
  obtain ⟨⟨a1, a2⟩, ⟨a3, a4⟩⟩ := a
  obtain ⟨⟨b1, b2⟩, ⟨b3, b4⟩⟩ := b
  simp only [nkN, NestedKey.tup.injEq, List.cons.injEq, NestedKey.num.injEq, and_true] at h
  obtain ⟨⟨h1, h2⟩, h3, h4⟩ := h
  rw [h1, h2, h3, h4]
/-- the entries: keys, where their tuples stand -/
def xsH (xs : List (Q4 × Addr)) : List (NestedKey × Addr × Value) := xs.map fun x => (nkN x.1, x.2, .bool true)
def DN0 (P : Program) (w : World) (a : Addr) (xs : List (Q4 × Addr)) (h : Heap) : Prop :=
  xs.length ≤ sizeLine ∧ (a == sysModules) = false ∧ (∃ o es ep, h.get? a = some o ∧ o.ExactDict ∧ o.data = .dict es ep ∧ es.toList = (xsH xs).map (entryOfKey (nestedKind P w))) ∧ (xs.map (·.1)).Nodup
def DNO (P : Program) (w : World) (a : Addr) (xs : List (Q4 × Addr)) : HO := .ext (DN0 P w a xs)
/-- the tuple of tuples at b is the key q -/
def KeyAt (H : Hp) (q : Q4) (b : Addr) : Prop := ∃ b1 b2, H b = some (.tup [.ref b1, .ref b2]) ∧ H b1 = some (.tup [.int q.1.1, .int q.1.2]) ∧ H b2 = some (.tup [.int q.2.1, .int q.2.2])
def NDict (P : Program) (w : World) (H : Hp) (a : Addr) (xs : List (Q4 × Addr)) : Prop := H a = some (DNO P w a xs) ∧ ∀ x ∈ xs, KeyAt H x.1 x.2
section
variable {P : Program} {w : World} {H : Hp} {h : Heap} {a b : Addr} {xs : List (Q4 × Addr)} {q : Q4}
theorem dno_ok (x : DN0 P w a xs h) : ObjOk P w H h a (DNO P w a xs) := by
  obtain ⟨z, y, ⟨o, es, ep, e, r⟩, nd⟩ := x
  exact ⟨⟨z, y, ⟨o, es, ep, e, r⟩, nd⟩, ⟨o, e⟩, fun h1 h2 ⟨z, y, ⟨o, es, ep, e, r⟩, nd⟩ k => ⟨z, y, ⟨o, es, ep, k _ e, r⟩, nd⟩⟩
theorem pair_is (ok : HOk P w H h) {i j : Int} (e : H b = some (.tup [.int i, .int j])) : NestedIs h (.tup [.num i, .num j]) (.ref b) := by
  obtain ⟨_, its, r, o, h1, h2, n, h3⟩ := (show ObjOk P w H h b (.tup [.int i, .int j]) from ok b _ e)
  cases r with
  | cons r1 r =>
    cases r with
    | cons r2 r =>
      cases r
      obtain ⟨t1, rfl⟩ := r1
      obtain ⟨t2, rfl⟩ := r2
      exact .tup h1 h2 h3 (.cons (.int _ _) (.cons (.int _ _) .nil))
theorem key_is (ok : HOk P w H h) (e : KeyAt H q b) : (nestedKind P w).is h (nkN q) b := by
  obtain ⟨b1, b2, e0, e1, e2⟩ := e
  obtain ⟨_, its, r, o, h1, h2, n, h3⟩ := (show ObjOk P w H h b (.tup [.ref b1, .ref b2]) from ok b _ e0)
  refine ⟨?_, by show NestedKey.depth (nkN q) ≤ 8; simp [nkN, NestedKey.depth, NestedKey.depthAll]⟩
  cases r with
  | cons r1 r =>
    cases r with
    | cons r2 r =>
      cases r
      cases r1
      cases r2
      exact .tup h1 h2 h3 (.cons (pair_is ok e1) (.cons (pair_is ok e2) .nil))
theorem xsH_nodup (nd : (xs.map (·.1)).Nodup) : ((xsH xs).map (·.1)).Nodup := by
  unfold xsH
  rw [List.map_map]
  have : (xs.map ((fun x : NestedKey × Addr × Value => x.1) ∘ fun x : Q4 × Addr => (nkN x.1, x.2, Value.bool true))) = (xs.map (·.1)).map nkN := by rw [List.map_map]; rfl
  rw [this]
  exact List.Pairwise.map nkN (fun a b hab z => hab (nkN_inj z)) nd
theorem dn_of (ok : HOk P w H h) (d : NDict P w H a xs) : xs.length ≤ sizeLine ∧ (a == sysModules) = false ∧ h.DictOfH (nestedKind P w) a (xsH xs) ∧ (xs.map (·.1)).Nodup := by
  obtain ⟨e, k⟩ := d
  obtain ⟨⟨z, y, ⟨o, es, ep, h1, h2, h3, h4⟩, nd⟩, _⟩ := (show ObjOk P w H h a (DNO P w a xs) from ok a _ e)
  refine ⟨z, y, ⟨o, es, ep, h1, h2, h3, h4, fun x hx => ?_, xsH_nodup nd⟩, nd⟩
  obtain ⟨y, hy, rfl⟩ := List.mem_map.mp hx
  exact key_is ok (k y hy)
theorem atKey_xsH (xs : List (Q4 × Addr)) (q : Q4) : (atKey (xsH xs) (nkN q)).isSome = decide (q ∈ xs.map (·.1)) := by
  induction xs with
  | nil => rfl
  | cons x xs ih =>
    show (((_ :: xsH xs).find? fun x => decide (x.1 = nkN q)).map (·.2)).isSome = _
    rw [List.find?_cons]
    by_cases e : x.1 = q
    · rw [decide_eq_true (show nkN x.1 = nkN q by rw [e])]
      rw [decide_eq_true (by rw [List.map_cons, e]; exact List.mem_cons_self)]
      rfl
    · rw [decide_eq_false (show ¬ nkN x.1 = nkN q from fun z => e (nkN_inj z))]
      have : decide (q ∈ (x :: xs).map (·.1)) = decide (q ∈ xs.map (·.1)) := decide_eq_decide.mpr (by
        rw [List.map_cons, List.mem_cons]
        exact ⟨fun z => z.elim (fun z => absurd z.symm e) id, .inr⟩)
      rw [this, ← ih]
      rfl
theorem dn_new (x : h.DictOfH (nestedKind P w) a (xsH xs)) (hl : xs.length ≤ sizeLine) (hd : (a == sysModules) = false) (nd : (xs.map (·.1)).Nodup) : DN0 P w a xs h := by
  obtain ⟨o, es, ep, h1, h2, h3, h4, _, _⟩ := x
  exact ⟨hl, hd, ⟨o, es, ep, h1, h2, h3, h4⟩, nd⟩
end
section
variable {X : Cx}
theorem nk_room (hu : X.A.units + 64 < cLine) : (nestedKind X.prog X.w).room X.A.in1 := by
  show X.A.in1.units + 8 < cLine
  rw [Around.in1_units]
  omega
/-- q in d -/
def rInN (P : Program) (w : World) (neg : Bool) : R2 := fun x y H Q => ∃ b a q xs, x = .ref b ∧ y = .ref a ∧ NDict P w H a xs ∧ KeyAt H q b ∧ Q (.bl (if neg then !decide (q ∈ xs.map (·.1)) else decide (q ∈ xs.map (·.1)))) H
theorem op_inN (hu : X.A.units + 64 < cLine) : OpR X (compareOp .In) (rInN X.prog X.w false) := by
  intro pins s σ H x y v u Q I rx ry h
  obtain ⟨b, a, q, xs, rfl, rfl, d, k, q'⟩ := h
  cases rx
  cases ry
  obtain ⟨z, hd, dd, nd⟩ := dn_of I.hok d
  refine wpAny_in_heap (nk_room hu) (key_is I.hok k) hd dd ?_
  rw [atKey_xsH]
  have q' : Q (.bl (decide (q ∈ xs.map (·.1)))) H := q'
  have rv : RelV (.bl (decide (q ∈ xs.map (·.1)))) (.bool (decide (q ∈ xs.map (·.1)))) := rfl
  exact ⟨_, H, I.tok _, rv, q'⟩
theorem op_notInN (hu : X.A.units + 64 < cLine) : OpR X (compareOp .NotIn) (rInN X.prog X.w true) := by
  intro pins s σ H x y v u Q I rx ry h
  obtain ⟨b, a, q, xs, rfl, rfl, d, k, q'⟩ := h
  cases rx
  cases ry
  obtain ⟨z, hd, dd, nd⟩ := dn_of I.hok d
  refine wpAny_notIn_heap (nk_room hu) (key_is I.hok k) hd dd ?_
  rw [atKey_xsH]
  have q' : Q (.bl (!decide (q ∈ xs.map (·.1)))) H := q'
  have rv : RelV (.bl (!decide (q ∈ xs.map (·.1)))) (.bool (!decide (q ∈ xs.map (·.1)))) := rfl
  exact ⟨_, H, I.tok _, rv, q'⟩
/-- d[q] = True, q new -/
def sNPut (P : Program) (w : World) (td ty tv : TE) : TS := fun D σ H => tv σ H fun v H1 => td σ H1 fun x H2 => ty σ H2 fun y H3 => ∃ a b q xs, v = .bl true ∧ x = .ref a ∧ y = .ref b ∧ NDict P w H3 a xs ∧ KeyAt H3 q b ∧ q ∉ xs.map (·.1) ∧ xs.length < 1000000 ∧ D.nx σ (upd H3 a (DNO P w a (xs ++ [(q, b)])))
variable {o i value : Expr} {pos pos' tpos : Pos} {td ty tv : TE}
theorem ps_nput (hu : X.A.units + 64 < cLine) (ho : PE X o td) (hi : PE X i ty) (hv : PE X value tv) (hs : swapsWith value (some (.Subscript o i pos')) pos.line X.env = pure false) :
    PS X (.Assign [.Subscript o i pos'] value pos) (sNPut X.prog X.w td ty tv) := by
  refine ⟨fun pins s σ H D I h => ?_⟩
  refine wpAny_Assign_Subscript (thn (hv.run pins s σ H _ I h) fun r s1 ⟨v, H1, I1, rv, q1⟩ => thn (ho.run pins s1 σ H1 _ I1 q1) fun u s2 ⟨x, H2, I2, rx, q2⟩ => thn (hi.run pins s2 σ H2 _ I2 q2) fun iv s3 ⟨y, H3, I3, ry, a, b, q, xs, ev, ex, ey, d, k, hn, hl, q3⟩ => ?_) hs
  subst ev ex ey
  cases rx
  cases ry
  cases rv
  obtain ⟨z, hd, dd, nd⟩ := dn_of I3.hok d
  have hat : atKey (xsH xs) (nkN q) = none := by
    have := atKey_xsH xs q
    rw [decide_eq_false hn] at this
    exact Option.isSome_eq_false_iff.mp this |> Option.isNone_iff_eq_none.mp
  refine wpAny_setItem_heap (hsz := by unfold xsH; rw [List.length_map]; exact z) (nk_room hu) (key_is I3.hok k) dd fun h' dd' sb => ?_
  rw [storedH_new hat] at dd'
  have e2 : xsH xs ++ [(nkN q, b, .bool true)] = xsH (xs ++ [(q, b)]) := by unfold xsH; rw [List.map_append]; rfl
  rw [e2] at dd'
  have hl2 : (xs ++ [(q, b)]).length ≤ sizeLine := by
    rw [List.length_append, List.length_singleton]
    exact Nat.le_trans (show xs.length + 1 ≤ 1000000 by omega) (by decide)
  have nd2 : ((xs ++ [(q, b)]).map (·.1)).Nodup := by
    rw [List.map_append, List.nodup_append]
    refine ⟨nd, List.nodup_cons.mpr ⟨List.not_mem_nil, List.nodup_nil⟩, fun x hx y hy e => ?_⟩
    rw [List.map_singleton, List.mem_singleton] at hy
    exact hn (by rw [e, hy] at hx; exact hx)
  have he : ∃ q, h'.get? a = some q := let ⟨q, _, _, hq, _⟩ := dd'; ⟨q, hq⟩
  exact ⟨σ, _, d_write I3 (by rw [d.1]; exact True.intro) sb he (dno_ok (dn_new dd' hl2 hd nd2)), q3⟩
/-- del d[q] -/
def sNDel (P : Program) (w : World) (td ty : TE) : TS := fun D σ H => td σ H fun x H1 => ty σ H1 fun y H2 => ∃ a b q xs, x = .ref a ∧ y = .ref b ∧ NDict P w H2 a xs ∧ KeyAt H2 q b ∧ q ∈ xs.map (·.1) ∧ D.nx σ (upd H2 a (DNO P w a (xs.filter fun x => decide (x.1 ≠ q))))
theorem ps_ndel (hu : X.A.units + 64 < cLine) (ho : PE X o td) (hi : PE X i ty) : PS X (.Delete [.Subscript o i tpos] pos) (sNDel X.prog X.w td ty) := by
  refine ⟨fun pins s σ H D I h => ?_⟩
  refine wpAny_Delete (wpAny_deleteEach_cons (wpAny_delete_Subscript (thn (ho.run pins s σ H _ I h) fun u s1 ⟨x, H1, I1, rx, q1⟩ => thn (hi.run pins s1 σ H1 _ I1 q1) fun iv s2 ⟨y, H2, I2, ry, a, b, q, xs, ex, ey, d, k, hn, q2⟩ => ?_)))
  subst ex ey
  cases rx
  cases ry
  obtain ⟨z, hd, dd, nd⟩ := dn_of I2.hok d
  obtain ⟨p, hp⟩ : ∃ p, atKey (xsH xs) (nkN q) = some p := by
    have := atKey_xsH xs q
    rw [decide_eq_true hn] at this
    exact Option.isSome_iff_exists.mp this
  refine wpAny_delItem_heap (hsz := by unfold xsH; rw [List.length_map]; exact z) (nk_room hu) (key_is I2.hok k) hd dd hp fun h' dd' sb => ?_
  have e2 : withoutH (xsH xs) (nkN q) = xsH (xs.filter fun x => decide (x.1 ≠ q)) := by
    unfold withoutH xsH
    rw [List.filter_map]
    congr 1
    apply List.filter_congr
    intro x _
    show decide (nkN x.1 ≠ nkN q) = decide (x.1 ≠ q)
    by_cases e : x.1 = q
    · rw [decide_eq_false (by rw [e]; simp), decide_eq_false (by simp [e])]
    · rw [decide_eq_true e, decide_eq_true (show nkN x.1 ≠ nkN q from fun z => e (nkN_inj z))]
  rw [e2] at dd'
  have hl2 : (xs.filter fun x => decide (x.1 ≠ q)).length ≤ sizeLine := Nat.le_trans (List.length_filter_le _ _) z
  have nd2 : ((xs.filter fun x => decide (x.1 ≠ q)).map (·.1)).Nodup := List.Sublist.nodup (List.Sublist.map _ List.filter_sublist) nd
  have he : ∃ q, h'.get? a = some q := let ⟨q, _, _, hq, _⟩ := dd'; ⟨q, hq⟩
  exact wpAny_deleteEach_nil ⟨σ, _, d_write I2 (by rw [d.1]; exact True.intro) sb he (dno_ok (dn_new dd' hl2 hd nd2)), q2⟩
/-- {} -/
def tDNewN (P : Program) (w : World) : TE := fun _ H Q => ∀ p, H p = none → Q (.ref p) (upd H p (DNO P w p []))
theorem pe_dnewN : PE X (.Dict [] [] pos) (tDNewN X.prog X.w) := ⟨fun pins s σ H Q I h =>
  wpAny_Dict_empty ⟨.ref s.heap.objs.size, _, I.laid (a := s.heap.objs.size) (o := DNO X.prog X.w s.heap.objs.size []) (t' := s.toks) (fun _ _ q => Heap.get?_push_of_some _ q) (Nat.le_refl _)
    (dno_ok ⟨Nat.zero_le _, beq_eq_false_iff_ne.mpr (Ne.symm (Nat.ne_of_lt I.big)), ⟨_, #[], 0, Heap.get?_push_size _ rfl, ⟨rfl, rfl, rfl⟩, rfl, rfl⟩, List.nodup_nil⟩), rfl, h _ (I.hok.fresh (Nat.le_refl _))⟩⟩
/-- list(d) -/
theorem call_list_dN (hc : X.calm = true) : CallR X (.type "list") (fun xs H Q => ∃ d ys, xs = [V.ref d] ∧ NDict X.prog X.w H d ys ∧ ∀ p, H p = none → Q (.ref p) (upd H p (.lst (ys.map fun y => V.ref y.2)))) := by
  intro pins s σ H xs us Q I r h
  obtain ⟨d, ys, rfl, hd, q⟩ := h
  obtain ⟨u, rfl, rx⟩ := r.one
  cases rx
  obtain ⟨z, hs, ⟨o, es, ep, ho, hx, hdt, he, _, _⟩, nd⟩ := dn_of I.hok hd
  have l1 : es.size = ys.length := by rw [size_of_entries he]; unfold xsH; rw [List.length_map]
  refine PySem.W.kdl_call (kdl_raw hs hx hdt) (I.ok.hd hc) ho (by omega) fun h' tk acc' c' kp e it => ?_
  have ea : acc'.toList = ys.map fun x => Value.ref x.2 := by
    have hl : acc'.toList.length = ys.length := by rw [Array.length_toList, it.1]; exact l1
    apply List.ext_getElem?
    intro j
    rw [List.getElem?_map]
    cases hj : acc'.toList[j]? with
    | none =>
      have h1 := List.getElem?_eq_none_iff.mp hj
      rw [List.getElem?_eq_none (by omega)]
      all_goals rfl
    | some v =>
      obtain ⟨en, hen, hv⟩ := it.2 j v (by rw [← Array.getElem?_toList]; exact hj)
      have qe := entry_at he j
      rw [hen] at qe
      unfold xsH at qe
      rw [List.getElem?_map] at qe
      cases hb : ys[j]? with
      | none =>
        rw [hb] at qe
        exact nomatch (show some en = none from qe)
      | some b =>
        rw [hb] at qe
        have e2 := Option.some.inj qe
        rw [hv, e2]
        all_goals rfl
  have eb : acc'.toList = (ys.map fun x => x.2).map Value.ref := by rw [ea, List.map_map]; all_goals rfl
  have rv : Vals ((ys.map fun x => x.2).map V.ref) acc'.toList := by rw [eb]; exact vals_refs _
  have e3 : (ys.map fun x => x.2).map V.ref = ys.map fun y => V.ref y.2 := by rw [List.map_map]; rfl
  have hz : ((ys.map fun x => x.2).map V.ref).length ≤ sizeLine := by rw [List.length_map, List.length_map]; omega
  rw [← e3] at q
  refine ⟨.ref s.heap.objs.size, _, I.laid (t' := tk) (o := .lst ((ys.map fun x => x.2).map V.ref)) kp (Nat.le_refl _) ?_, rfl, q _ (I.hok.fresh (Nat.le_refl _))⟩
  exact ⟨hz, acc'.toList, c', rv, by rw [Array.toArray_toList]; exact e⟩
end
end Vl
/-! A layer of plain data over HandS: what a def computes is told over data (D) with no heap in sight. -/
namespace Vl
open PySem PySem.Spec PyProof.Rows L2

/-! ### data -/
inductive D where
  | non | bl (b : Bool) | int (i : Int) | str (x : Str)
  | tup (ds : List D) | lst (ds : List D) | ins (c : Nat) (ds : List D) | dct (t : Bool) (ks : List (List Key)) (ds : List D)
  /-- the script: read, never written -/
  | scr (ns : List Int)
  /-- a dict whose keys are pairs of pairs of ints; True behind each -/
  | nd (ks : List Q4)
/-- such a key -/
def nkD (q : Q4) : D := .tup [.tup [.int q.1.1, .int q.1.2], .tup [.int q.2.1, .int q.2.2]]

/-- the text's classes by number: where a class stands, its fields in their order -/
structure Tb where
  K : PySem.W.Frag
  cl : Nat → Addr
  fs : Nat → List Str
  pr : Program
  wd : World

def keyD : Key → D
  | .inl i => .int i
  | .inr x => .str x
/-- the key that a datum is: of a dict with flat keys, of one whose keys are tuples -/
def keyF : D → Option Key
  | .int i => some (.inl i)
  | .str x => some (.inr x)
  | _ => none
def keysF : List D → Option (List Key)
  | [] => some []
  | d :: ds => match keyF d, keysF ds with
    | some k, some ks => some (k :: ks)
    | _, _ => none
def keyO : Bool → D → Option (List Key)
  | true, .tup ds => keysF ds
  | true, _ => none
  | false, d => (keyF d).map fun k => [k]
/-- o is a dict with these keys and values -/
def DctO (t : Bool) (o : HO) (ks : List (List Key)) (vs : List V) : Prop := ks.Nodup ∧ match t with
  | false => ∃ kvs : List (Key × V), o = .dK kvs ∧ ks = kvs.map (fun p => [p.1]) ∧ vs = kvs.map (·.2)
  | true => ∃ kvs : List (List Key × V), o = .dT kvs ∧ ks = kvs.map (·.1) ∧ vs = kvs.map (·.2)

theorem Same.seqT {K : PySem.W.Frag} {H H' : Hp} {a : Addr} {xs : List V} (e : Same H H') (h : SqT K H a xs) : SqT K H' a xs := by
  rcases h with (h | ⟨o, h⟩) | h
  · exact .inl (.inl (e _ _ h))
  · exact .inl (.inr ⟨o, e _ _ h⟩)
  · exact .inr h

mutual
/-- v stands for d, by what the heap F holds -/
inductive Rep (T : Tb) (F : Hp) : V → D → Prop
  | non : Rep T F .non .non
  | bl (b : Bool) : Rep T F (.bl b) (.bl b)
  | int (i : Int) : Rep T F (.int i) (.int i)
  | str (x : Str) : Rep T F (.str x) (.str x)
  | tup {a : Addr} {vs : List V} {ds : List D} : F a = some (.tup vs) → Reps T F vs ds → Rep T F (.ref a) (.tup ds)
  | lst {a : Addr} {vs : List V} {ds : List D} : F a = some (.lst vs) → Reps T F vs ds → Rep T F (.ref a) (.lst ds)
  | scr {a : Addr} {ns : List Int} : SqL T.K F a (ns.map V.int) → Rep T F (.ref a) (.scr ns)
  | ins {a dx : Addr} {c : Nat} {vs : List V} {ds : List D} : F a = some (.ins (T.cl c) dx ((T.fs c).zip vs)) → (T.fs c).length = vs.length → Reps T F vs ds → Rep T F (.ref a) (.ins c ds)
  | nd {a : Addr} {ks : List Q4} {xs : List (Q4 × Addr)} : ks = xs.map (·.1) → F a = some (DNO T.pr T.wd a xs) → Reps T F (xs.map fun x => V.ref x.2) (xs.map fun x => nkD x.1) → Rep T F (.ref a) (.nd ks)
  | dct {a : Addr} {o : HO} {t : Bool} {ks : List (List Key)} {vs : List V} {ds : List D} : F a = some o → DctO t o ks vs → Reps T F vs ds → Rep T F (.ref a) (.dct t ks ds)
inductive Reps (T : Tb) (F : Hp) : List V → List D → Prop
  | nil : Reps T F [] []
  | cons {v : V} {vs : List V} {d : D} {ds : List D} : Rep T F v d → Reps T F vs ds → Reps T F (v :: vs) (d :: ds)
end

section
variable {T : Tb} {F F' H H' : Hp}
mutual
theorem Rep.mono (e : Same F F') : ∀ {v : V} {d : D}, Rep T F v d → Rep T F' v d
  | _, _, .non => .non
  | _, _, .bl b => .bl b
  | _, _, .int i => .int i
  | _, _, .str x => .str x
  | _, _, .tup h r => .tup (e _ _ h) (Reps.mono e r)
  | _, _, .lst h r => .lst (e _ _ h) (Reps.mono e r)
  | _, _, .scr h => .scr (e.seq h)
  | _, _, .ins h l r => .ins (e _ _ h) l (Reps.mono e r)
  | _, _, .dct h l r => .dct (e _ _ h) l (Reps.mono e r)
  | _, _, .nd q h r => .nd q (e _ _ h) (Reps.mono e r)
theorem Reps.mono (e : Same F F') : ∀ {vs : List V} {ds : List D}, Reps T F vs ds → Reps T F' vs ds
  | _, _, .nil => .nil
  | _, _, .cons h r => .cons (Rep.mono e h) (Reps.mono e r)
end
theorem Reps.length : ∀ {vs : List V} {ds : List D}, Reps T F vs ds → vs.length = ds.length
  | _, _, .nil => rfl
  | _, _, .cons _ r => by simp [Reps.length r]
theorem Reps.get : ∀ {vs : List V} {ds : List D} {i : Nat} {v : V}, Reps T F vs ds → vs[i]? = some v → ∃ d, ds[i]? = some d ∧ Rep T F v d
  | _, _, _, _, .nil, h => by simp at h
  | _, _, 0, _, .cons r _, h => by simp at h; subst h; exact ⟨_, rfl, r⟩
  | _, _, i + 1, _, .cons _ r, h => by simpa using Reps.get (i := i) r (by simpa using h)
theorem Reps.getD : ∀ {vs : List V} {ds : List D} {i : Nat} {d : D}, Reps T F vs ds → ds[i]? = some d → ∃ v, vs[i]? = some v ∧ Rep T F v d
  | _, _, _, _, .nil, h => by simp at h
  | _, _, 0, _, .cons r _, h => by simp at h; subst h; exact ⟨_, rfl, r⟩
  | _, _, i + 1, _, .cons _ r, h => by simpa using Reps.getD (i := i) r (by simpa using h)
theorem Reps.append : ∀ {vs ws : List V} {ds es : List D}, Reps T F vs ds → Reps T F ws es → Reps T F (vs ++ ws) (ds ++ es)
  | _, _, _, _, .nil, s => s
  | _, _, _, _, .cons r t, s => .cons r (Reps.append t s)
theorem Reps.snoc {vs : List V} {ds : List D} {v : V} {d : D} (r : Reps T F vs ds) (h : Rep T F v d) : Reps T F (vs ++ [v]) (ds ++ [d]) := r.append (.cons h .nil)
theorem Reps.take : ∀ {vs : List V} {ds : List D} (n : Nat), Reps T F vs ds → Reps T F (vs.take n) (ds.take n)
  | _, _, 0, _ => .nil
  | _, _, n + 1, .nil => .nil
  | _, _, n + 1, .cons r t => .cons r (Reps.take n t)
theorem Reps.drop : ∀ {vs : List V} {ds : List D} (n : Nat), Reps T F vs ds → Reps T F (vs.drop n) (ds.drop n)
  | _, _, 0, r => r
  | _, _, n + 1, .nil => .nil
  | _, _, n + 1, .cons _ t => Reps.drop n t
theorem Reps.set : ∀ {vs : List V} {ds : List D} {v : V} {d : D} (n : Nat), Reps T F vs ds → Rep T F v d → Reps T F (vs.set n v) (ds.set n d)
  | _, _, _, _, _, .nil, _ => .nil
  | _, _, _, _, 0, .cons _ t, h => .cons h t
  | _, _, _, _, n + 1, .cons r t, h => .cons r (Reps.set n t h)
theorem Reps.eraseIdx : ∀ {vs : List V} {ds : List D} (n : Nat), Reps T F vs ds → Reps T F (vs.eraseIdx n) (ds.eraseIdx n)
  | _, _, _, .nil => .nil
  | _, _, 0, .cons _ t => t
  | _, _, n + 1, .cons r t => .cons r (Reps.eraseIdx n t)
theorem Reps.dropLast : ∀ {vs : List V} {ds : List D}, Reps T F vs ds → Reps T F vs.dropLast ds.dropLast
  | _, _, .nil => .nil
  | _, _, .cons r .nil => .nil
  | _, _, .cons r (.cons q t) => .cons r (Reps.dropLast (.cons q t))
theorem Reps.reverse : ∀ {vs : List V} {ds : List D}, Reps T F vs ds → Reps T F vs.reverse ds.reverse
  | _, _, .nil => .nil
  | _, _, .cons r t => by
    rw [List.reverse_cons, List.reverse_cons]
    exact (Reps.reverse t).snoc r
theorem Reps.replicate {vs : List V} {ds : List D} (r : Reps T F vs ds) : ∀ n : Nat, Reps T F (List.replicate n vs).flatten (List.replicate n ds).flatten
  | 0 => .nil
  | n + 1 => by
    rw [List.replicate_succ, List.replicate_succ, List.flatten_cons, List.flatten_cons]
    exact r.append (Reps.replicate r n)
theorem rep_int {v : V} {i : Int} (h : Rep T F v (.int i)) : v = .int i := by cases h; rfl
theorem rep_bl {v : V} {i : Bool} (h : Rep T F v (.bl i)) : v = .bl i := by cases h; rfl
theorem rep_str {v : V} {i : Str} (h : Rep T F v (.str i)) : v = .str i := by cases h; rfl
theorem rep_non {v : V} (h : Rep T F v .non) : v = .non := by cases h; rfl
theorem rep_tup {v : V} {ds : List D} (h : Rep T F v (.tup ds)) : ∃ a vs, v = .ref a ∧ F a = some (.tup vs) ∧ Reps T F vs ds := by
  cases h with
  | tup h r => exact ⟨_, _, rfl, h, r⟩
theorem rep_lst {v : V} {ds : List D} (h : Rep T F v (.lst ds)) : ∃ a vs, v = .ref a ∧ F a = some (.lst vs) ∧ Reps T F vs ds := by
  cases h with
  | lst h r => exact ⟨_, _, rfl, h, r⟩
theorem rep_ins {v : V} {c : Nat} {ds : List D} (h : Rep T F v (.ins c ds)) : ∃ a dx vs, v = .ref a ∧ F a = some (.ins (T.cl c) dx ((T.fs c).zip vs)) ∧ (T.fs c).length = vs.length ∧ Reps T F vs ds := by
  cases h with
  | ins h l r => exact ⟨_, _, _, rfl, h, l, r⟩
theorem reps_ints : ∀ {vs : List V} {ns : List Int}, Reps T F vs (ns.map D.int) → vs = ns.map V.int
  | _, [], .nil => rfl
  | _, n :: ns, .cons r t => by rw [rep_int r, reps_ints t]; rfl
theorem reps_of_ints : ∀ ns : List Int, Reps T F (ns.map V.int) (ns.map D.int)
  | [] => .nil
  | n :: ns => .cons (.int n) (reps_of_ints ns)
end

/-! ### what is owned: it may be changed -/
/-- own objects as a tree: lists and dicts of clean things; lists, dicts, instances whose items may be own themselves -/
inductive M where
  | cl (d : D)
  | fl (ds : List D) | fd (t : Bool) (ks : List (List Key)) (ds : List D)
  | tl (ms : List M) | td (t : Bool) (ks : List (List Key)) (ms : List M) | ti (c : Nat) (ms : List M)
  /-- a tuple of own things -/
  | tp (ms : List M)
  | nd (ks : List Q4)
mutual
def M.toD : M → D
  | .cl d => d
  | .fl ds => .lst ds
  | .fd t ks ds => .dct t ks ds
  | .tl ms => .lst (M.toDs ms)
  | .td t ks ms => .dct t ks (M.toDs ms)
  | .ti c ms => .ins c (M.toDs ms)
  | .tp ms => .tup (M.toDs ms)
  | .nd ks => .nd ks
def M.toDs : List M → List D
  | [] => []
  | m :: ms => m.toD :: M.toDs ms
end
mutual
/-- v is the root of the tree m; A: where its objects stand -/
inductive Own (T : Tb) (F H : Hp) : V → M → List Addr → Prop
  | cl {v : V} {d : D} : Rep T F v d → Own T F H v (.cl d) []
  | fl {p : Addr} {vs : List V} {ds : List D} : H p = some (.lst vs) → F p = none → Reps T F vs ds → Own T F H (.ref p) (.fl ds) [p]
  | fd {p : Addr} {o : HO} {t : Bool} {ks : List (List Key)} {vs : List V} {ds : List D} : H p = some o → F p = none → DctO t o ks vs → Reps T F vs ds → Own T F H (.ref p) (.fd t ks ds) [p]
  | tl {p : Addr} {vs : List V} {ms : List M} {A : List Addr} : H p = some (.lst vs) → F p = none → p ∉ A → Owns T F H vs ms A → Own T F H (.ref p) (.tl ms) (p :: A)
  | td {p : Addr} {o : HO} {t : Bool} {ks : List (List Key)} {vs : List V} {ms : List M} {A : List Addr} : H p = some o → F p = none → DctO t o ks vs → p ∉ A → Owns T F H vs ms A → Own T F H (.ref p) (.td t ks ms) (p :: A)
  | ti {p dx : Addr} {c : Nat} {vs : List V} {ms : List M} {A : List Addr} : H p = some (.ins (T.cl c) dx ((T.fs c).zip vs)) → F p = none → (T.fs c).length = vs.length → p ∉ A → Owns T F H vs ms A → Own T F H (.ref p) (.ti c ms) (p :: A)
  | nd {p : Addr} {ks : List Q4} {xs : List (Q4 × Addr)} : ks = xs.map (·.1) → H p = some (DNO T.pr T.wd p xs) → F p = none → Reps T F (xs.map fun x => V.ref x.2) (xs.map fun x => nkD x.1) → Own T F H (.ref p) (.nd ks) [p]
  | tp {p : Addr} {vs : List V} {ms : List M} {A : List Addr} : H p = some (.tup vs) → p ∉ A → Owns T F H vs ms A → Own T F H (.ref p) (.tp ms) (p :: A)
inductive Owns (T : Tb) (F H : Hp) : List V → List M → List Addr → Prop
  | nil : Owns T F H [] [] []
  | cons {v : V} {vs : List V} {m : M} {ms : List M} {A B : List Addr} : Own T F H v m A → Owns T F H vs ms B → (∀ a ∈ A, a ∉ B) → Owns T F H (v :: vs) (m :: ms) (A ++ B)
end
section
variable {T : Tb} {F F' H H' : Hp}
/-- no tuple stands there -/
def NT (H : Hp) (a : Addr) : Prop := ∀ vs, H a ≠ some (.tup vs)
theorem nt_of {H : Hp} {p : Addr} {o : HO} (h : H p = some o) (ho : ∀ vs, o ≠ .tup vs := by intro vs z; cases z) : NT H p := fun vs e => ho vs (by rw [h] at e; exact Option.some.inj e)
theorem dctO_nt {t : Bool} {o : HO} {ks : List (List Key)} {vs : List V} (h : DctO t o ks vs) : ∀ ws, o ≠ .tup ws := by
  intro ws z
  cases t with
  | false => obtain ⟨_, k1, rfl, _⟩ := h; cases z
  | true => obtain ⟨_, k1, rfl, _⟩ := h; cases z
mutual
theorem Own.mem : ∀ {v : V} {m : M} {A : List Addr}, Own T F H v m A → ∀ a ∈ A, H a ≠ none ∧ (NT H a → F a = none)
  | _, _, _, .cl _ => fun a h => nomatch h
  | _, _, _, .fl h f _ => fun a q => by rw [List.mem_singleton.mp q]; exact ⟨by rw [h]; simp, fun _ => f⟩
  | _, _, _, .fd h f _ _ => fun a q => by rw [List.mem_singleton.mp q]; exact ⟨by rw [h]; simp, fun _ => f⟩
  | _, _, _, .tl h f _ r => fun a q => by
    rcases List.mem_cons.mp q with q | q
    · rw [q]; exact ⟨by rw [h]; simp, fun _ => f⟩
    · exact Owns.mem r a q
  | _, _, _, .td h f _ _ r => fun a q => by
    rcases List.mem_cons.mp q with q | q
    · rw [q]; exact ⟨by rw [h]; simp, fun _ => f⟩
    · exact Owns.mem r a q
  | _, _, _, .ti h f _ _ r => fun a q => by
    rcases List.mem_cons.mp q with q | q
    · rw [q]; exact ⟨by rw [h]; simp, fun _ => f⟩
    · exact Owns.mem r a q
  | _, _, _, .nd _ h f _ => fun a q => by rw [List.mem_singleton.mp q]; exact ⟨by rw [h]; simp, fun _ => f⟩
  | _, _, _, .tp h _ r => fun a q => by
    rcases List.mem_cons.mp q with q | q
    · rw [q]; exact ⟨by rw [h]; simp, fun n => absurd h (n _)⟩
    · exact Owns.mem r a q
theorem Owns.mem : ∀ {vs : List V} {ms : List M} {A : List Addr}, Owns T F H vs ms A → ∀ a ∈ A, H a ≠ none ∧ (NT H a → F a = none)
  | _, _, _, .nil => fun a h => nomatch h
  | _, _, _, .cons r t _ => fun a q => by
    rcases List.mem_append.mp q with q | q
    · exact Own.mem r a q
    · exact Owns.mem t a q
end
mutual
/-- its own objects stand as they stood -/
theorem Own.keep (e : Same F F') : ∀ {v : V} {m : M} {A : List Addr}, Own T F H v m A → (∀ a ∈ A, H' a = H a) → (∀ a ∈ A, NT H a → F' a = none) → Own T F' H' v m A
  | _, _, _, .cl r, _, _ => .cl (r.mono e)
  | _, _, _, .fl h f r, k, n => .fl ((k _ List.mem_cons_self).trans h) (n _ List.mem_cons_self (nt_of h)) (r.mono e)
  | _, _, _, .fd h f d r, k, n => .fd ((k _ List.mem_cons_self).trans h) (n _ List.mem_cons_self (nt_of h (dctO_nt d))) d (r.mono e)
  | _, _, _, .tl h f x r, k, n => .tl ((k _ List.mem_cons_self).trans h) (n _ List.mem_cons_self (nt_of h)) x (Owns.keep e r (fun a q => k a (List.mem_cons_of_mem _ q)) (fun a q => n a (List.mem_cons_of_mem _ q)))
  | _, _, _, .td h f d x r, k, n => .td ((k _ List.mem_cons_self).trans h) (n _ List.mem_cons_self (nt_of h (dctO_nt d))) d x (Owns.keep e r (fun a q => k a (List.mem_cons_of_mem _ q)) (fun a q => n a (List.mem_cons_of_mem _ q)))
  | _, _, _, .ti h f d x r, k, n => .ti ((k _ List.mem_cons_self).trans h) (n _ List.mem_cons_self (nt_of h)) d x (Owns.keep e r (fun a q => k a (List.mem_cons_of_mem _ q)) (fun a q => n a (List.mem_cons_of_mem _ q)))
  | _, _, _, .nd q h f r, k, n => .nd q ((k _ List.mem_cons_self).trans h) (n _ List.mem_cons_self (nt_of h (by intro vs z; cases z))) (r.mono e)
  | _, _, _, .tp h x r, k, n => .tp ((k _ List.mem_cons_self).trans h) x (Owns.keep e r (fun a q => k a (List.mem_cons_of_mem _ q)) (fun a q => n a (List.mem_cons_of_mem _ q)))
theorem Owns.keep (e : Same F F') : ∀ {vs : List V} {ms : List M} {A : List Addr}, Owns T F H vs ms A → (∀ a ∈ A, H' a = H a) → (∀ a ∈ A, NT H a → F' a = none) → Owns T F' H' vs ms A
  | _, _, _, .nil, _, _ => .nil
  | _, _, _, .cons r t d, k, n => .cons (Own.keep e r (fun a q => k a (List.mem_append_left _ q)) (fun a q => n a (List.mem_append_left _ q))) (Owns.keep e t (fun a q => k a (List.mem_append_right _ q)) (fun a q => n a (List.mem_append_right _ q))) d
end
mutual
/-- what is owned becomes clean -/
theorem Own.frz (e : Same F F') : ∀ {v : V} {m : M} {A : List Addr}, Own T F H v m A → (∀ a ∈ A, F' a = H a) → Rep T F' v m.toD
  | _, _, _, .cl r, _ => r.mono e
  | _, _, _, .fl h f r, k => .lst ((k _ List.mem_cons_self).trans h) (r.mono e)
  | _, _, _, .fd h f d r, k => .dct ((k _ List.mem_cons_self).trans h) d (r.mono e)
  | _, _, _, .tl h f x r, k => .lst ((k _ List.mem_cons_self).trans h) (Owns.frz e r fun a q => k a (List.mem_cons_of_mem _ q))
  | _, _, _, .td h f d x r, k => .dct ((k _ List.mem_cons_self).trans h) d (Owns.frz e r fun a q => k a (List.mem_cons_of_mem _ q))
  | _, _, _, .ti h f d x r, k => .ins ((k _ List.mem_cons_self).trans h) d (Owns.frz e r fun a q => k a (List.mem_cons_of_mem _ q))
  | _, _, _, .nd q h f r, k => .nd q ((k _ List.mem_cons_self).trans h) (r.mono e)
  | _, _, _, .tp h x r, k => .tup ((k _ List.mem_cons_self).trans h) (Owns.frz e r fun a q => k a (List.mem_cons_of_mem _ q))
theorem Owns.frz (e : Same F F') : ∀ {vs : List V} {ms : List M} {A : List Addr}, Owns T F H vs ms A → (∀ a ∈ A, F' a = H a) → Reps T F' vs (M.toDs ms)
  | _, _, _, .nil, _ => .nil
  | _, _, _, .cons r t d, k => .cons (Own.frz e r fun a q => k a (List.mem_append_left _ q)) (Owns.frz e t fun a q => k a (List.mem_append_right _ q))
end
theorem dctO_det {t : Bool} {o : HO} {ks ks' : List (List Key)} {vs vs' : List V} (h : DctO t o ks vs) (h' : DctO t o ks' vs') : ks = ks' ∧ vs = vs' := by
  cases t with
  | false =>
    obtain ⟨_, k1, rfl, rfl, rfl⟩ := h
    obtain ⟨_, k2, e, rfl, rfl⟩ := h'
    cases e; exact ⟨rfl, rfl⟩
  | true =>
    obtain ⟨_, k1, rfl, rfl, rfl⟩ := h
    obtain ⟨_, k2, e, rfl, rfl⟩ := h'
    cases e; exact ⟨rfl, rfl⟩
theorem zip_inj {fs : List Str} : ∀ {vs ws : List V}, fs.length = vs.length → fs.length = ws.length → fs.zip vs = fs.zip ws → vs = ws := by
  induction fs with
  | nil =>
    intro vs ws h1 h2 _
    cases vs with
    | nil => cases ws with
      | nil => rfl
      | cons _ _ => cases h2
    | cons _ _ => cases h1
  | cons f fs ih =>
    intro vs ws h1 h2 e
    cases vs with
    | nil => cases h1
    | cons v vs =>
      cases ws with
      | nil => cases h2
      | cons w ws =>
        simp only [List.zip_cons_cons, List.cons.injEq, Prod.mk.injEq, true_and] at e
        rw [e.1, ih (by simpa using h1) (by simpa using h2) e.2]
mutual
theorem Own.det : ∀ {v : V} {m : M} {A B : List Addr}, Own T F H v m A → Own T F H v m B → A = B
  | _, _, _, _, .cl _, .cl _ => rfl
  | _, _, _, _, .fl _ _ _, .fl _ _ _ => rfl
  | _, _, _, _, .fd _ _ _ _, .fd _ _ _ _ => rfl
  | _, _, _, _, .nd _ _ _ _, .nd _ _ _ _ => rfl
  | _, _, _, _, .tl h _ _ r, .tl h' _ _ r' => by
    rw [h] at h'; cases h'
    rw [Owns.det r r']
  | _, _, _, _, .td h _ d _ r, .td h' _ d' _ r' => by
    rw [h] at h'; cases h'
    obtain ⟨_, rfl⟩ := dctO_det d d'
    rw [Owns.det r r']
  | _, _, _, _, .ti h _ d _ r, .ti h' _ d' _ r' => by
    rw [h] at h'
    simp only [Option.some.injEq, HO.ins.injEq] at h'
    cases zip_inj d d' h'.2.2
    rw [Owns.det r r']
  | _, _, _, _, .tp h _ r, .tp h' _ r' => by
    rw [h] at h'; cases h'
    rw [Owns.det r r']
theorem Owns.det : ∀ {vs : List V} {ms : List M} {A B : List Addr}, Owns T F H vs ms A → Owns T F H vs ms B → A = B
  | _, _, _, _, .nil, .nil => rfl
  | _, _, _, _, .cons r t _, .cons r' t' _ => by rw [Own.det r r', Owns.det t t']
end
theorem Owns.length : ∀ {vs : List V} {ms : List M} {A : List Addr}, Owns T F H vs ms A → vs.length = ms.length
  | _, _, _, .nil => rfl
  | _, _, _, .cons _ t _ => by simp [Owns.length t]
/-- what is owned, seen -/
theorem Own.rep {v : V} {m : M} {A : List Addr} (e : Same F H) (h : Own T F H v m A) : Rep T H v m.toD := h.frz e fun _ _ => rfl
theorem own_clean {v : V} {d : D} {A : List Addr} (h : Own T F H v (.cl d) A) : Rep T F v d ∧ A = [] := by
  cases h with
  | cl r => exact ⟨r, rfl⟩
theorem own_fl {v : V} {ds : List D} {A : List Addr} (h : Own T F H v (.fl ds) A) : ∃ p vs, v = .ref p ∧ A = [p] ∧ H p = some (.lst vs) ∧ F p = none ∧ Reps T F vs ds := by
  cases h with
  | fl h f r => exact ⟨_, _, rfl, rfl, h, f, r⟩
theorem own_fd {v : V} {t : Bool} {ks : List (List Key)} {ds : List D} {A : List Addr} (h : Own T F H v (.fd t ks ds) A) : ∃ p o vs, v = .ref p ∧ A = [p] ∧ H p = some o ∧ F p = none ∧ DctO t o ks vs ∧ Reps T F vs ds := by
  cases h with
  | fd h f d r => exact ⟨_, _, _, rfl, rfl, h, f, d, r⟩
theorem own_tl {v : V} {ms : List M} {A : List Addr} (h : Own T F H v (.tl ms) A) : ∃ p vs B, v = .ref p ∧ A = p :: B ∧ H p = some (.lst vs) ∧ F p = none ∧ p ∉ B ∧ Owns T F H vs ms B := by
  cases h with
  | tl h f x r => exact ⟨_, _, _, rfl, rfl, h, f, x, r⟩
theorem own_td {v : V} {t : Bool} {ks : List (List Key)} {ms : List M} {A : List Addr} (h : Own T F H v (.td t ks ms) A) : ∃ p o vs B, v = .ref p ∧ A = p :: B ∧ H p = some o ∧ F p = none ∧ DctO t o ks vs ∧ p ∉ B ∧ Owns T F H vs ms B := by
  cases h with
  | td h f d x r => exact ⟨_, _, _, _, rfl, rfl, h, f, d, x, r⟩
theorem own_ti {v : V} {c : Nat} {ms : List M} {A : List Addr} (h : Own T F H v (.ti c ms) A) : ∃ p dx vs B, v = .ref p ∧ A = p :: B ∧ H p = some (.ins (T.cl c) dx ((T.fs c).zip vs)) ∧ F p = none ∧ (T.fs c).length = vs.length ∧ p ∉ B ∧ Owns T F H vs ms B := by
  cases h with
  | ti h f d x r => exact ⟨_, _, _, _, rfl, rfl, h, f, d, x, r⟩
theorem own_nd {v : V} {ks : List Q4} {A : List Addr} (h : Own T F H v (.nd ks) A) : ∃ p xs, v = .ref p ∧ A = [p] ∧ ks = xs.map (·.1) ∧ H p = some (DNO T.pr T.wd p xs) ∧ F p = none ∧ Reps T F (xs.map fun x => V.ref x.2) (xs.map fun x => nkD x.1) := by
  cases h with
  | nd q h f r => exact ⟨_, _, rfl, rfl, q, h, f, r⟩
theorem own_tp {v : V} {ms : List M} {A : List Addr} (h : Own T F H v (.tp ms) A) : ∃ p vs B, v = .ref p ∧ A = p :: B ∧ H p = some (.tup vs) ∧ p ∉ B ∧ Owns T F H vs ms B := by
  cases h with
  | tp h x r => exact ⟨_, _, _, rfl, rfl, h, x, r⟩
end
/-- the heap F, and of H what stands at A -/
noncomputable def ext (F : Hp) (A : List Addr) (H : Hp) : Hp := fun a => if a ∈ A then H a else F a
theorem ext_in {F H : Hp} {A : List Addr} {a : Addr} (h : a ∈ A) : ext F A H a = H a := if_pos h
theorem ext_out {F H : Hp} {A : List Addr} {a : Addr} (h : a ∉ A) : ext F A H a = F a := if_neg h
theorem ext_same {F H : Hp} {A : List Addr} (h : Same F H) : Same F (ext F A H) := fun a o e => by
  by_cases q : a ∈ A
  · rw [ext_in q]; exact h _ _ e
  · rw [ext_out q]; exact e
/-- a value that an expression hands on: clean data; a borrowed or an own object seen; a new object that nobody else has -/
inductive W where
  | cl (d : D) | bw (m : M) | ow (m : M) | fr (m : M)
def W.toD : W → D
  | .cl d => d
  | .bw m => m.toD
  | .ow m => m.toD
  | .fr m => m.toD
/-- a slot -/
inductive AV where
  | non | im (d : D) | bw (m : M) | ow (l : Bool) (m : M)

/-- a def's call: the heap and the clean heap at its start; what it may change of that heap, and its root -/
structure Gx where
  H0 : Hp
  F0 : Hp
  L : List Addr
  r : V := .non

section
variable (T : Tb)
def RepW (G : Gx) (Hs F H : Hp) (v : V) : W → Prop
  | .cl d => Rep T F v d
  | .bw m => ∃ A, Own T F H v m A ∧ ∀ a ∈ A, a ∉ G.L ∧ G.H0 a ≠ none
  | .ow m => ∃ A, Own T F H v m A
  | .fr m => ∃ A, Own T F H v m A ∧ ∀ a ∈ A, Hs a = none
def OwS (G : Gx) (v : V) (A : List Addr) (l : Bool) : Prop := if l = true then v = G.r ∧ ∀ a ∈ A, a ∈ G.L ∨ G.H0 a = none else ∀ a ∈ A, G.H0 a = none
def SlotOk (G : Gx) (F H : Hp) (o : Option V) : AV → Prop
  | .non => True
  | .im d => ∃ v, o = some v ∧ Rep T F v d
  | .bw m => ∃ v A, o = some v ∧ Own T F H v m A ∧ ∀ a ∈ A, a ∉ G.L ∧ G.H0 a ≠ none
  | .ow l m => ∃ v A, o = some v ∧ Own T F H v m A ∧ OwS G v A l
def gs (σ : L2.St) (i : Nat) : Option V := σ.getD i none
def gt (δ : List AV) (i : Nat) : AV := δ.getD i .non
structure RepS (G : Gx) (F H : Hp) (σ : L2.St) (δ : List AV) : Prop where
  ex : Same F H
  fr : ∀ a o, G.H0 a = some o → a ∉ G.L → H a = some o
  th : ∀ a, G.H0 a ≠ none → H a ≠ none
  lh : ∀ a, a ∈ G.L → G.H0 a ≠ none
  f0 : Same G.F0 F
  fn : ∀ a, G.H0 a ≠ none → a ∉ G.L → NT H a → F a = G.F0 a
  len : δ.length = σ.length
  sl : ∀ i, SlotOk T G F H (gs σ i) (gt δ i)
  dj : ∀ i j l l' m m' v w A B, i ≠ j → gt δ i = .ow l m → gt δ j = .ow l' m' → gs σ i = some v → gs σ j = some w → Own T F H v m A → Own T F H w m' B → ∀ a ∈ A, a ∉ B
end
/-- the heap has grown, and of it the clean part F -/
structure Go (F H F' H' : Hp) : Prop where
  h : Same H H'
  f : Same F F'
  ex : Same F' H'
  n : ∀ a, H a ≠ none → NT H a → F' a = F a
section
variable {T : Tb} {G : Gx} {F F' F2 H H' H2 Hs : Hp} {σ : L2.St} {δ : List AV} {v : V} {w : W} {m : M} {p : Addr} {A : List Addr}
theorem Go.refl (e : Same F H) : Go F H F H := ⟨Same.refl _, Same.refl _, e, fun _ _ _ => rfl⟩
theorem Same.nn (e : Same H H') {a : Addr} (h : H a ≠ none) : H' a ≠ none := fun q => h (e.free q)
theorem Same.at (e : Same H H') {a : Addr} (h : H a ≠ none) : H' a = H a := by
  cases q : H a with
  | none => exact absurd q h
  | some o => exact e _ _ q
theorem Same.nt (e : Same H H') {a : Addr} (h : H a ≠ none) (n : NT H a) : NT H' a := fun vs z => n vs ((Same.at e h).symm.trans z)
theorem NT.at {a : Addr} (n : NT H a) (e : H' a = H a) : NT H' a := fun vs z => n vs (e.symm.trans z)
theorem NT.upd {x a : Addr} {o : HO} (n : NT (upd H x o) a) (h : NT H x) : NT H a := by
  by_cases q : a = x
  · exact q ▸ h
  · exact fun vs z => n vs ((upd_ne q).trans z)
theorem NT.back (e : Same H H') {a : Addr} (n : NT H' a) : NT H a := fun vs z => n vs (e _ _ z)
theorem Go.trans (a : Go F H F' H') (b : Go F' H' F2 H2) : Go F H F2 H2 :=
  ⟨a.h.trans b.h, a.f.trans b.f, b.ex, fun x hx nx => (b.n x (Same.nn a.h hx) (Same.nt a.h hx nx)).trans (a.n x hx nx)⟩
theorem Own.go (g : Go F H F' H') (h : Own T F H v m A) : Own T F' H' v m A :=
  h.keep g.f (fun a q => Same.at g.h (h.mem a q).1) (fun a q n => (g.n a (h.mem a q).1 n).trans ((h.mem a q).2 n))
theorem Owns.go {vs : List V} {ms : List M} (g : Go F H F' H') (h : Owns T F H vs ms A) : Owns T F' H' vs ms A :=
  h.keep g.f (fun a q => Same.at g.h (h.mem a q).1) (fun a q n => (g.n a (h.mem a q).1 n).trans ((h.mem a q).2 n))
theorem RepW.go (g : Go F H F' H') : ∀ {w : W}, RepW T G Hs F H v w → RepW T G Hs F' H' v w
  | .cl d, h => Rep.mono g.f h
  | .bw m, ⟨A, h, a⟩ => ⟨A, h.go g, a⟩
  | .ow m, ⟨A, h⟩ => ⟨A, h.go g⟩
  | .fr m, ⟨A, h, a⟩ => ⟨A, h.go g, a⟩
/-- seen from an earlier heap -/
theorem RepW.back (e : Same H2 Hs) : ∀ {w : W}, RepW T G Hs F H v w → RepW T G H2 F H v w
  | .cl d, h => h
  | .bw m, h => h
  | .ow m, h => h
  | .fr m, ⟨A, h, a⟩ => ⟨A, h, fun x q => e.free (a x q)⟩
theorem RepW.rep (e : Same F H) : ∀ {w : W}, RepW T G Hs F H v w → Rep T H v w.toD
  | .cl d, h => Rep.mono e h
  | .bw m, ⟨A, h, _⟩ => h.rep e
  | .ow m, ⟨A, h⟩ => h.rep e
  | .fr m, ⟨A, h, _⟩ => h.rep e
theorem SlotOk.go {o : Option V} (g : Go F H F' H') : ∀ {a : AV}, SlotOk T G F H o a → SlotOk T G F' H' o a
  | .non, _ => trivial
  | .im d, ⟨v, e, h⟩ => ⟨v, e, Rep.mono g.f h⟩
  | .bw m, ⟨v, A, e, h, a⟩ => ⟨v, A, e, h.go g, a⟩
  | .ow l m, ⟨v, A, e, h, a⟩ => ⟨v, A, e, h.go g, a⟩
/-- an own slot's tree, before and behind -/
theorem RepS.own (R : RepS T G F H σ δ) {i : Nat} {l : Bool} (h : gt δ i = .ow l m) : ∃ v A, gs σ i = some v ∧ Own T F H v m A ∧ OwS G v A l := by
  have q := R.sl i
  rw [h] at q
  exact q
theorem RepS.go (R : RepS T G F H σ δ) (g : Go F H F' H') : RepS T G F' H' σ δ where
  ex := g.ex
  fr := fun a o h n => g.h _ _ (R.fr a o h n)
  th := fun a h => Same.nn g.h (R.th a h)
  lh := R.lh
  f0 := R.f0.trans g.f
  fn := fun a h l n => (g.n a (R.th a h) (n.back g.h)).trans (R.fn a h l (n.back g.h))
  len := R.len
  sl := fun i => (R.sl i).go g
  dj := fun i j l l' m m' v w A B ne e1 e2 e3 e4 o1 o2 => by
    obtain ⟨v', A', q1, q2, _⟩ := R.own e1
    obtain ⟨w', B', q3, q4, _⟩ := R.own e2
    rw [e3] at q1; cases q1
    rw [e4] at q3; cases q3
    rw [Own.det o1 (q2.go g), Own.det o2 (q4.go g)]
    exact R.dj i j l l' m m' _ _ _ _ ne e1 e2 e3 e4 q2 q4
/-- a new object is laid, clean -/
theorem Go.new {o : HO} (g : Go F H F' H') (hp : H' p = none) : Go F H (upd F' p o) (upd H' p o) := by
  have fp : F' p = none := g.ex.free hp
  have hp0 : H p = none := g.h.free hp
  refine ⟨fun b x e => ?_, fun b x e => ?_, fun b x e => ?_, fun a ha => ?_⟩
  · have q := g.h _ _ e
    rw [upd_ne (ne_of_none q hp)]; exact q
  · have q := g.f _ _ e
    rw [upd_ne (ne_of_none q fp)]; exact q
  · by_cases hb : b = p
    · subst hb; rw [upd_same] at e ⊢; exact e
    · rw [upd_ne hb] at e ⊢; exact g.ex _ _ e
  · have : a ≠ p := fun q => ha (q ▸ hp0)
    rw [upd_ne this]; exact g.n a ha
/-- a new object is laid, not clean -/
theorem Go.lay {o : HO} (g : Go F H F' H') (hp : H' p = none) : Go F H F' (upd H' p o) := by
  refine ⟨fun b x e => ?_, g.f, fun b x e => ?_, g.n⟩
  · have q := g.h _ _ e
    rw [upd_ne (ne_of_none q hp)]; exact q
  · have q := g.ex _ _ e
    rw [upd_ne (ne_of_none q hp)]; exact q
/-- what nobody else has becomes clean -/
theorem Go.freeze (g : Go F H F' H') (h0 : ∀ a ∈ A, H a = none) : Go F H (ext F' A H') H' := by
  refine ⟨g.h, fun b x e => ext_same g.ex _ _ (g.f _ _ e), fun b x e => ?_, fun a ha => ?_⟩
  · by_cases hb : b ∈ A
    · rw [ext_in hb] at e; exact e
    · rw [ext_out hb] at e; exact g.ex _ _ e
  · rw [ext_out fun q => ha (h0 a q)]; exact g.n a ha
theorem Same.updN {o : HO} (h : F p = none) : Same F (upd F p o) := fun b x e => by
  rw [upd_ne (ne_of_none e h)]; exact e
def argW : W → W
  | .fr m => .cl m.toD
  | w => w
theorem RepW.arg (g : Go F H F' H') : ∀ {w : W}, RepW T G H F' H' v w → ∃ F2, Go F H F2 H' ∧ Go F' H' F' H' ∧ Same F' F2 ∧ RepW T G H F2 H' v (argW w) ∧ (∀ a, H a ≠ none → NT H a → F2 a = F' a)
  | .cl d, h => ⟨F', g, Go.refl g.ex, Same.refl _, h, fun _ _ _ => rfl⟩
  | .bw m, h => ⟨F', g, Go.refl g.ex, Same.refl _, h, fun _ _ _ => rfl⟩
  | .ow m, h => ⟨F', g, Go.refl g.ex, Same.refl _, h, fun _ _ _ => rfl⟩
  | .fr m, ⟨A, h, a⟩ => by
    exact ⟨ext F' A H', g.freeze a, Go.refl g.ex, ext_same g.ex, h.frz (ext_same g.ex) fun x q => ext_in q, fun b hb _ => ext_out fun z => hb (a b z)⟩
end
end Vl
namespace Vl
open PySem PySem.Spec PyProof.Rows L2

/-! ### readings over data -/
abbrev AE := List AV → (W → Prop) → Prop
abbrev AA := List AV → (List W → Prop) → Prop
abbrev AT := List AV → (Bool → Prop) → Prop
structure AEnds where
  nx : List AV → Prop
  rt : W → List AV → Prop
  bk : List AV → Prop := fun _ => False
  ct : List AV → Prop := fun _ => False
abbrev AS := AEnds → List AV → Prop
def RepA (T : Tb) (G : Gx) (F H : Hp) (v : V) : W → Prop
  | .cl d => Rep T F v d
  | .bw m => ∃ A, Own T F H v m A ∧ ∀ a ∈ A, a ∉ G.L ∧ G.H0 a ≠ none
  | .ow m => ∃ A, Own T F H v m A
  | .fr _ => False
inductive RepAs (T : Tb) (G : Gx) (F H : Hp) : List V → List W → Prop
  | nil : RepAs T G F H [] []
  | cons {v : V} {vs : List V} {w : W} {ws : List W} : RepA T G F H v w → RepAs T G F H vs ws → RepAs T G F H (v :: vs) (w :: ws)
section
variable (T : Tb)
def rdE (a : AE) : TE := fun σ H Q => ∃ G F δ P, RepS T G F H σ δ ∧ a δ P ∧ ∀ w, P w → ∀ v F' H', Go F H F' H' → RepW T G H F' H' v w → Q v H'
def rdA (a : AA) : TA := fun σ H Q => ∃ G F δ P, RepS T G F H σ δ ∧ a δ P ∧ ∀ ws, P ws → ∀ vs F' H', Go F H F' H' → RepAs T G F' H' vs ws → Q vs H'
def rdT (a : AT) : TT := fun σ H Q => ∃ G F δ P, RepS T G F H σ δ ∧ a δ P ∧ ∀ b, P b → ∀ F' H', Go F H F' H' → Q b H'
/-- what a def hands back -/
def RepR (Hs F H : Hp) (v : V) : W → Prop
  | .cl d => Rep T F v d
  | .fr m => ∃ A, Own T F H v m A ∧ ∀ a ∈ A, Hs a = none
  | _ => False
/-- what is handed back stands apart from what was lent -/
def Apart (F H : Hp) (σ : L2.St) (δ : List AV) (v : V) (w : W) : Prop := ∀ m i m' u A B, w = .fr m → gt δ i = .ow true m' → gs σ i = some u → Own T F H v m A → Own T F H u m' B → ∀ a ∈ A, a ∉ B
structure EndsOk (G : Gx) (Fs : Hp) (E : AEnds) (D : Ends) : Prop where
  nx : ∀ δ, E.nx δ → ∀ F H σ, Same Fs F → RepS T G F H σ δ → D.nx σ H
  rt : ∀ w δ, E.rt w δ → ∀ v F H σ, Same Fs F → RepS T G F H σ δ → RepR T G.H0 F H v w → Apart T F H σ δ v w → D.rt v H
  bk : ∀ δ, E.bk δ → ∀ F H σ, Same Fs F → RepS T G F H σ δ → D.bk σ H
  ct : ∀ δ, E.ct δ → ∀ F H σ, Same Fs F → RepS T G F H σ δ → D.ct σ H
def rdS (a : AS) : TS := fun D σ H => ∃ G F δ E, RepS T G F H σ δ ∧ a E δ ∧ EndsOk T G F E D
end
section
variable {T : Tb} {G : Gx} {F F' F2 H H' H2 Hs : Hp} {σ : L2.St} {δ : List AV} {v : V} {w : W} {m : M} {p : Addr}
theorem EndsOk.mono {E : AEnds} {D : Ends} (k : EndsOk T G F E D) (e : Same F F') : EndsOk T G F' E D :=
  ⟨fun δ h F H σ s => k.nx δ h F H σ (e.trans s), fun w δ h v F H σ s => k.rt w δ h v F H σ (e.trans s), fun δ h F H σ s => k.bk δ h F H σ (e.trans s), fun δ h F H σ s => k.ct δ h F H σ (e.trans s)⟩
theorem RepA.go (g : Go F H F' H') : ∀ {w : W}, RepA T G F H v w → RepA T G F' H' v w
  | .cl d, h => Rep.mono g.f h
  | .bw m, ⟨A, h, a⟩ => ⟨A, h.go g, a⟩
  | .ow m, ⟨A, h⟩ => ⟨A, h.go g⟩
  | .fr m, h => h
theorem RepA.toW : ∀ {w : W}, RepA T G F H v w → RepW T G Hs F H v w
  | .cl d, h => h
  | .bw m, h => h
  | .ow m, h => h
  | .fr m, h => h.elim
theorem RepW.toA : ∀ {w : W}, RepW T G Hs F H v (argW w) → RepA T G F H v (argW w)
  | .cl d, h => h
  | .bw m, h => h
  | .ow m, h => h
  | .fr m, h => h
theorem RepAs.go (g : Go F H F' H') : ∀ {vs : List V} {ws : List W}, RepAs T G F H vs ws → RepAs T G F' H' vs ws
  | _, _, .nil => .nil
  | _, _, .cons h r => .cons (h.go g) (RepAs.go g r)
theorem gs_some {i : Nat} (h : gs σ i = some v) : σ[i]? = some (some v) := by
  unfold gs at h
  rw [List.getD_eq_getElem?_getD] at h
  cases q : σ[i]? with
  | none => rw [q] at h; cases h
  | some o => rw [q] at h; cases h; rfl
theorem gs_set {i j : Nat} {o : Option V} (hi : i < σ.length) : gs (σ.set i o) j = if i = j then o else gs σ j := by
  unfold gs
  rw [List.getD_eq_getElem?_getD, List.getD_eq_getElem?_getD, List.getElem?_set]
  by_cases h : i = j
  · subst h; simp [hi]
  · simp [h]
theorem gt_set {i j : Nat} {o : AV} (hi : i < δ.length) : gt (δ.set i o) j = if i = j then o else gt δ j := by
  unfold gt
  rw [List.getD_eq_getElem?_getD, List.getD_eq_getElem?_getD, List.getElem?_set]
  by_cases h : i = j
  · subst h; simp [hi]
  · simp [h]
theorem gs_out {i : Nat} {o : Option V} (hi : ¬ i < σ.length) : σ.set i o = σ := by
  rw [List.set_eq_of_length_le (by omega)]
theorem gt_out {i : Nat} {o : AV} (hi : ¬ i < δ.length) : δ.set i o = δ := by
  rw [List.set_eq_of_length_le (by omega)]
/-- an AE to a test's reading and so on -/
theorem _root_.L2.PE.mono {X : Cx} {e : Expr} {t t' : TE} (h : PE X e t) (k : ∀ σ H Q, t' σ H Q → t σ H Q) : PE X e t' := ⟨fun pins s σ H Q I q => h.run pins s σ H Q I (k σ H Q q)⟩
theorem _root_.L2.PT.mono {X : Cx} {e : Expr} {t t' : TT} (h : PT X e t) (k : ∀ σ H Q, t' σ H Q → t σ H Q) : PT X e t' := ⟨fun pins s σ H Q I q => h.run pins s σ H Q I (k σ H Q q)⟩
theorem _root_.L2.PW.mono {X : Cx} {e : Expr} {t t' : TT} (h : PW X e t) (k : ∀ σ H Q, t' σ H Q → t σ H Q) : PW X e t' := ⟨fun wh pins s σ H Q I q => h.run wh pins s σ H Q I (k σ H Q q)⟩
theorem _root_.L2.PA.mono {X : Cx} {e : List Expr} {t t' : TA} (h : PA X e t) (k : ∀ σ H Q, t' σ H Q → t σ H Q) : PA X e t' := ⟨fun pos pins s σ H Q I q => h.run pos pins s σ H Q I (k σ H Q q)⟩
theorem _root_.L2.PS.mono {X : Cx} {e : Stmt} {t t' : TS} (h : PS X e t) (k : ∀ D σ H, t' D σ H → t D σ H) : PS X e t' := ⟨fun pins s σ H D I q => h.run pins s σ H D I (k D σ H q)⟩
theorem _root_.L2.PSs.mono {X : Cx} {e : List Stmt} {t t' : TS} (h : PSs X e t) (k : ∀ D σ H, t' D σ H → t D σ H) : PSs X e t' := ⟨fun pins s σ H D I q => h.run pins s σ H D I (k D σ H q)⟩
end

/-! ### expressions -/
def slotW : AV → Option W
  | .non => none
  | .im d => some (.cl d)
  | .bw m => some (.bw m)
  | .ow _ m => some (.ow m)
def aV (i : Nat) : AE := fun δ Q => match slotW (gt δ i) with
  | some w => Q w
  | none => False
def aC (d : D) : AE := fun _ Q => Q (.cl d)
/-- one operand, by a step on values -/
def aUn (f : W → (W → Prop) → Prop) (a : AE) : AE := fun δ Q => a δ fun x => f x Q
def aBin (f : W → W → (W → Prop) → Prop) (a b : AE) : AE := fun δ Q => a δ fun x => b δ fun y => f x y Q
/-- a step on two values is right for a reading by values -/
def Bin2 (T : Tb) (r : R2) (f : W → W → (W → Prop) → Prop) : Prop := ∀ (G : Gx) (F H F' H' : Hp) (x y : V) (u w : W) (P : W → Prop) (Q : VK), Go F H F' H' → RepW T G H F' H' x u → RepW T G H F' H' y w → f u w P →
  (∀ z, P z → ∀ v F2 H2, Go F H F2 H2 → RepW T G H F2 H2 v z → Q v H2) → r x y H' Q
def Un1 (T : Tb) (r : V → Hp → VK → Prop) (f : W → (W → Prop) → Prop) : Prop := ∀ (G : Gx) (F H F' H' : Hp) (x : V) (u : W) (P : W → Prop) (Q : VK), Go F H F' H' → RepW T G H F' H' x u → f u P →
  (∀ z, P z → ∀ v F2 H2, Go F H F2 H2 → RepW T G H F2 H2 v z → Q v H2) → r x H' Q
section
variable {T : Tb} {X : Cx} {a b : Expr} {x y : AE} {pos : Pos} {r : R2} {r1 : V → Hp → VK → Prop} {f : W → W → (W → Prop) → Prop} {f1 : W → (W → Prop) → Prop}
theorem rd_un (hf : Un1 T r1 f1) {σ : L2.St} {H : Hp} {Q : VK} (h : rdE T (aUn f1 x) σ H Q) : tUn r1 (rdE T x) σ H Q := by
  obtain ⟨G, F, δ, P, R, h, k⟩ := h
  refine ⟨G, F, δ, _, R, h, fun u hu v F' H' g ru => ?_⟩
  exact hf G F H F' H' v u P Q g ru hu k
theorem rd_bin (hf : Bin2 T r f) {σ : L2.St} {H : Hp} {Q : VK} (h : rdE T (aBin f x y) σ H Q) : tOp r (rdE T x) (rdE T y) σ H Q := by
  obtain ⟨G, F, δ, P, R, h, k⟩ := h
  refine ⟨G, F, δ, _, R, h, fun u hu v F' H' g ru => ?_⟩
  refine ⟨G, F', δ, _, R.go g, hu, fun w hw z F2 H2 g2 rw => ?_⟩
  exact hf G F H F2 H2 v z u w P Q (g.trans g2) (ru.go g2) (rw.back g.h) hw k
theorem e_v (i : Nat) {s : Str} (hN : X.N[i]? = some s := by rfl) (hv : Vis X.env.scope s := by first | exact Or.inl rfl | exact Or.inr (Or.inl rfl) | exact Or.inr (Or.inr rfl)) (hd : (s == ("__debug__" : Str)) = false := by decide)
    (hcd : (s == ("__classdict__" : Str)) = false := by decide) : PE X (.Name s pos) (rdE T (aV i)) := by
  refine (pe_var hN hv hd hcd).mono fun σ H Q h => ?_
  obtain ⟨G, F, δ, P, R, h, k⟩ := h
  have q := R.sl i
  unfold aV at h
  generalize gt δ i = a at h q
  cases a with
  | non => exact h.elim
  | im d =>
    obtain ⟨v, e, r⟩ := q
    exact ⟨v, gs_some e, k _ h v F H (Go.refl R.ex) r⟩
  | bw m =>
    obtain ⟨v, A, e, r⟩ := q
    exact ⟨v, gs_some e, k _ h _ F H (Go.refl R.ex) ⟨A, r⟩⟩
  | ow l m =>
    obtain ⟨v, A, e, r, _⟩ := q
    exact ⟨v, gs_some e, k _ h _ F H (Go.refl R.ex) ⟨A, r⟩⟩
theorem rd_c {d : D} {v : V} (hv : ∀ F, Rep T F v d) {σ : L2.St} {H : Hp} {Q : VK} (h : rdE T (aC d) σ H Q) : tC v σ H Q := by
  obtain ⟨G, F, δ, P, R, h, k⟩ := h
  exact k _ h v F H (Go.refl R.ex) (hv F)
theorem e_int {i : Int} {j} : PE X (.Constant (.int i) j pos) (rdE T (aC (.int i))) := pe_int.mono fun _ _ _ h => rd_c (fun _ => .int i) h
theorem e_bl {i : Bool} {j} : PE X (.Constant (.bool i) j pos) (rdE T (aC (.bl i))) := pe_bl.mono fun _ _ _ h => rd_c (fun _ => .bl i) h
theorem e_non {j} : PE X (.Constant .none j pos) (rdE T (aC .non)) := pe_non.mono fun _ _ _ h => rd_c (fun _ => .non) h
theorem e_str {s : Str} {j} : PE X (.Constant (.str s) j pos) (rdE T (aC (.str s))) := pe_str.mono fun _ _ _ h => rd_c (fun _ => .str s) h
theorem e_bin {op : Operator} (ho : OpR X (binaryOp op) r) (hf : Bin2 T r f) (ha : PE X a (rdE T x)) (hb : PE X b (rdE T y)) : PE X (.BinOp a op b pos) (rdE T (aBin f x y)) :=
  (pe_op ho ha hb).mono fun _ _ _ h => rd_bin hf h
theorem e_un {op : UnaryOp} (ho : UnR X (unaryOp op) r1) (hf : Un1 T r1 f1) (ha : PE X a (rdE T x)) : PE X (.UnaryOp op a pos) (rdE T (aUn f1 x)) :=
  (pe_un ho ha).mono fun _ _ _ h => rd_un hf h
theorem e_cmp {op : CmpOp} (ho : OpR X (compareOp op) r) (hf : Bin2 T r f) (ha : PE X a (rdE T x)) (hb : PE X b (rdE T y)) (hm : behindInMarks op b = false) : PE X (.Compare a [op] [b] pos) (rdE T (aBin f x y)) :=
  (pe_cmpR ho ha hb hm).mono fun _ _ _ h => rd_bin hf h
end

/-! ### steps on values: ints -/
def dI (C : Int → Int → Prop) (g : Int → Int → D) : W → W → (W → Prop) → Prop := fun x y Q => match x, y with
  | .cl (.int i), .cl (.int j) => C i j ∧ Q (.cl (g i j))
  | _, _ => False
def dI0 (g : Int → Int → D) : W → W → (W → Prop) → Prop := fun x y Q => match x, y with
  | .cl (.int i), .cl (.int j) => Q (.cl (g i j))
  | _, _ => False
theorem dI_inv {C : Int → Int → Prop} {g : Int → Int → D} {x y : W} {Q : W → Prop} (h : dI C g x y Q) : ∃ i j, x = .cl (.int i) ∧ y = .cl (.int j) ∧ C i j ∧ Q (.cl (g i j)) := by
  unfold dI at h
  split at h
  · exact ⟨_, _, rfl, rfl, h⟩
  · exact h.elim
theorem dI0_inv {g : Int → Int → D} {x y : W} {Q : W → Prop} (h : dI0 g x y Q) : ∃ i j, x = .cl (.int i) ∧ y = .cl (.int j) ∧ Q (.cl (g i j)) := by
  unfold dI0 at h
  split at h
  · exact ⟨_, _, rfl, rfl, h⟩
  · exact h.elim
section
variable {T : Tb}
theorem bin_I0 {gV : Int → Int → V} {g : Int → Int → D} (hg : ∀ i j F, Rep T F (gV i j) (g i j)) : Bin2 T (rI0 gV) (dI0 g) := by
  intro G F H F' H' x y u w P Q go rx ry h k
  obtain ⟨i, j, rfl, rfl, q⟩ := dI0_inv h
  exact ⟨i, j, rep_int rx, rep_int ry, k _ q _ _ _ go (hg i j _)⟩
theorem bin_I {C C' : Int → Int → Prop} {gV : Int → Int → V} {g : Int → Int → D} (hc : ∀ i j, C i j → C' i j) (hg : ∀ i j F, C i j → Rep T F (gV i j) (g i j)) : Bin2 T (rI C' gV) (dI C g) := by
  intro G F H F' H' x y u w P Q go rx ry h k
  obtain ⟨i, j, rfl, rfl, c, q⟩ := dI_inv h
  exact ⟨i, j, rep_int rx, rep_int ry, hc i j c, k _ q _ _ _ go (hg i j _ c)⟩
end
/-- conditions as they are easily met -/
def CM (i j : Int) : Prop := (-(2 ^ 64) < i ∧ i < 2 ^ 64) ∨ (-(2 ^ 64) < j ∧ j < 2 ^ 64)
def dSub := dI0 fun i j => .int (i - j)
def dMulI := dI CM fun i j => .int (i * j)
def dDiv := dI (fun _ j => 0 < j ∧ j < 1073741824) fun i j => .int (i / j)
def dMod := dI (fun _ j => 0 < j) fun i j => .int (i % j)
def dShl := dI (fun i j => 0 ≤ j ∧ j ≤ 1000000 ∧ i.natAbs < 2 ^ 64) fun i j => .int (i * 2 ^ j.toNat)
def dPow := dI (fun i j => 0 ≤ j ∧ j ≤ 1000000 ∧ i.natAbs < 2 ^ 64) fun i j => .int (i ^ j.toNat)
def dLt := dI0 fun i j => .bl (decide (i < j))
def dLe := dI0 fun i j => .bl (decide (i ≤ j))
def dGt := dI0 fun i j => .bl (decide (j < i))
def dGe := dI0 fun i j => .bl (decide (j ≤ i))
section
variable {T : Tb}
theorem b_sub : Bin2 T (rI0 fun i j => .int (i - j)) dSub := bin_I0 fun _ _ _ => .int _
theorem b_mul : Bin2 T (rI CMul fun i j => .int (i * j)) dMulI := bin_I (fun _ _ h => h) fun _ _ _ _ => .int _
theorem b_div : Bin2 T (rI CDiv fun i j => .int (i / j)) dDiv := bin_I (fun _ _ h => h) fun _ _ _ _ => .int _
theorem b_mod : Bin2 T (rI (fun _ j => 0 < j) fun i j => .int (i % j)) dMod := bin_I (fun _ _ h => h) fun _ _ _ _ => .int _
theorem b_shl : Bin2 T (rI CPow fun i j => .int (i * 2 ^ j.toNat)) dShl := bin_I (fun _ _ h => h) fun _ _ _ _ => .int _
theorem b_pow : Bin2 T (rI CPow fun i j => .int (i ^ j.toNat)) dPow := bin_I (fun _ _ h => h) fun _ _ _ _ => .int _
theorem b_lt : Bin2 T (rI0 fun i j => .bl (decide (i < j))) dLt := bin_I0 fun _ _ _ => .bl _
theorem b_le : Bin2 T (rI0 fun i j => .bl (decide (i ≤ j))) dLe := bin_I0 fun _ _ _ => .bl _
theorem b_gt : Bin2 T (rI0 fun i j => .bl (decide (j < i))) dGt := bin_I0 fun _ _ _ => .bl _
theorem b_ge : Bin2 T (rI0 fun i j => .bl (decide (j ≤ i))) dGe := bin_I0 fun _ _ _ => .bl _
end
end Vl
namespace Vl
open PySem PySem.Spec PyProof.Rows L2

/-! ### equality of data -/
mutual
def pd : D → PyData
  | .non => .none
  | .bl b => .bool b
  | .int i => .int i
  | .str x => .str x
  | .tup ds => .tuple (pds ds)
  | .lst ds => .list (pds ds)
  | .ins _ _ => .dict []
  | .dct _ _ _ => .dict []
  | .scr _ => .dict []
  | .nd _ => .dict []
def pds : List D → List PyData
  | [] => []
  | d :: ds => pd d :: pds ds
end
def okD (d : D) : Bool := SeqAt.shaped (pd d)
def eqD (a b : D) : Bool := PyData.eqv (pd a) (pd b)
section
variable {T : Tb} {F H : Hp}
mutual
theorem Rep.dp : ∀ {d : D} {v : V}, Rep T H v d → (pd d).canLay0 = true → Dp T.K H v (pd d)
  | .non, _, .non, _ => .non
  | .bl _, _, .bl b, _ => .bl b
  | .int _, _, .int b, _ => .int b
  | .str _, _, .str b, _ => .str b
  | .tup ds, _, .tup h r, k => .tup (SqT.of h) (Reps.dp r (by simpa [pd, PyData.canLay0] using k))
  | .lst ds, _, .lst h r, k => .lst (SqL.of h) (Reps.dp r (by simpa [pd, PyData.canLay0] using k))
  | .ins _ _, _, _, k => by simp [pd, PyData.canLay0] at k
  | .dct _ _ _, _, _, k => by simp [pd, PyData.canLay0] at k
  | .scr _, _, _, k => by simp [pd, PyData.canLay0] at k
  | .nd _, _, _, k => by simp [pd, PyData.canLay0] at k
theorem Reps.dp : ∀ {ds : List D} {vs : List V}, Reps T H vs ds → PyData.canLayAll0 (pds ds) = true → DpAll T.K H vs (pds ds)
  | [], _, .nil, _ => .nil
  | d :: ds, _, .cons r t, k => by
    have k' : (pd d).canLay0 = true ∧ PyData.canLayAll0 (pds ds) = true := by simpa [pds, PyData.canLayAll0] using k
    exact .cons (Rep.dp r k'.1) (Reps.dp t k'.2)
end
theorem Rep.dpo {d : D} {v : V} (r : Rep T H v d) (k : okD d = true) : Dp T.K H v (pd d) := r.dp (SeqAt.canLay_of_shaped k)
end
def dEq : W → W → (W → Prop) → Prop := fun x y Q => okD x.toD = true ∧ okD y.toD = true ∧ Q (.cl (.bl (eqD x.toD y.toD)))
def dNe : W → W → (W → Prop) → Prop := fun x y Q => okD x.toD = true ∧ okD y.toD = true ∧ Q (.cl (.bl (!eqD x.toD y.toD)))
def refM : M → Bool
  | .cl _ => false
  | _ => true
def dIsN : W → W → (W → Prop) → Prop := fun x y Q => match x, y with
  | .cl .non, .cl .non => Q (.cl (.bl true))
  | .cl _, .cl .non => Q (.cl (.bl false))
  | .bw m, .cl .non => refM m = true ∧ Q (.cl (.bl false))
  | .ow m, .cl .non => refM m = true ∧ Q (.cl (.bl false))
  | .fr m, .cl .non => refM m = true ∧ Q (.cl (.bl false))
  | _, _ => False
def dNotN : W → W → (W → Prop) → Prop := fun x y Q => match x, y with
  | .cl .non, .cl .non => Q (.cl (.bl false))
  | .cl _, .cl .non => Q (.cl (.bl true))
  | .bw m, .cl .non => refM m = true ∧ Q (.cl (.bl true))
  | .ow m, .cl .non => refM m = true ∧ Q (.cl (.bl true))
  | .fr m, .cl .non => refM m = true ∧ Q (.cl (.bl true))
  | _, _ => False
/-- the items of a list that can be read, of a list or tuple -/
def itemsC : W → Option (List D)
  | .cl (.lst ds) => some ds
  | .bw (.fl ds) => some ds
  | .ow (.fl ds) => some ds
  | .fr (.fl ds) => some ds
  | _ => none
def seqC : W → Option (List D)
  | .cl (.lst ds) => some ds
  | .cl (.tup ds) => some ds
  | .cl (.scr ns) => some (ns.map .int)
  | .bw (.fl ds) => some ds
  | .ow (.fl ds) => some ds
  | .fr (.fl ds) => some ds
  | _ => none
/-- lists alone, the script too -/
def lstC : W → Option (List D)
  | .cl (.tup _) => none
  | w => seqC w
section
variable {T : Tb} {G : Gx} {F H Hs : Hp} {v : V} {w : W} {ds : List D} {p : Addr}
theorem RepW.items (e : Same F H) (h : RepW T G Hs F H v w) (k : itemsC w = some ds) : ∃ p vs, v = .ref p ∧ H p = some (.lst vs) ∧ Reps T F vs ds := by
  unfold itemsC at k
  split at k
  · cases k
    cases h with
    | lst q r => exact ⟨_, _, rfl, e _ _ q, r⟩
  · cases k
    obtain ⟨A, h, _⟩ := h
    obtain ⟨p, vs, rfl, _, q, _, r⟩ := own_fl h
    exact ⟨p, vs, rfl, q, r⟩
  · cases k
    obtain ⟨A, h⟩ := h
    obtain ⟨p, vs, rfl, _, q, _, r⟩ := own_fl h
    exact ⟨p, vs, rfl, q, r⟩
  · cases k
    obtain ⟨A, h, _⟩ := h
    obtain ⟨p, vs, rfl, _, q, _, r⟩ := own_fl h
    exact ⟨p, vs, rfl, q, r⟩
  · cases k
theorem RepW.seq (e : Same F H) (h : RepW T G Hs F H v w) (k : seqC w = some ds) : ∃ p vs, v = .ref p ∧ (SqL T.K H p vs ∨ SqT T.K H p vs) ∧ Reps T F vs ds := by
  unfold seqC at k
  split at k
  · cases k
    cases h with
    | lst q r => exact ⟨_, _, rfl, .inl (SqL.of (e _ _ q)), r⟩
  · cases k
    cases h with
    | tup q r => exact ⟨_, _, rfl, .inr (SqT.of (e _ _ q)), r⟩
  · cases k
    cases h with
    | scr q => exact ⟨_, _, rfl, .inl (Same.seq e q), reps_of_ints _⟩
  · cases k
    obtain ⟨A, h, _⟩ := h
    obtain ⟨p, vs, rfl, _, q, _, r⟩ := own_fl h
    exact ⟨p, vs, rfl, .inl (SqL.of q), r⟩
  · cases k
    obtain ⟨A, h⟩ := h
    obtain ⟨p, vs, rfl, _, q, _, r⟩ := own_fl h
    exact ⟨p, vs, rfl, .inl (SqL.of q), r⟩
  · cases k
    obtain ⟨A, h, _⟩ := h
    obtain ⟨p, vs, rfl, _, q, _, r⟩ := own_fl h
    exact ⟨p, vs, rfl, .inl (SqL.of q), r⟩
  · cases k
theorem RepW.lst (e : Same F H) (h : RepW T G Hs F H v w) (k : lstC w = some ds) : ∃ p vs, v = .ref p ∧ SqL T.K H p vs ∧ Reps T F vs ds := by
  unfold lstC at k
  split at k
  · cases k
  · rename_i hn
    unfold seqC at k
    split at k
    · cases k
      cases h with
      | lst q r => exact ⟨_, _, rfl, SqL.of (e _ _ q), r⟩
    · exact absurd rfl (hn _)
    · cases k
      cases h with
      | scr q => exact ⟨_, _, rfl, Same.seq e q, reps_of_ints _⟩
    · cases k
      obtain ⟨A, h, _⟩ := h
      obtain ⟨p, vs, rfl, _, q, _, r⟩ := own_fl h
      exact ⟨p, vs, rfl, SqL.of q, r⟩
    · cases k
      obtain ⟨A, h⟩ := h
      obtain ⟨p, vs, rfl, _, q, _, r⟩ := own_fl h
      exact ⟨p, vs, rfl, SqL.of q, r⟩
    · cases k
      obtain ⟨A, h, _⟩ := h
      obtain ⟨p, vs, rfl, _, q, _, r⟩ := own_fl h
      exact ⟨p, vs, rfl, SqL.of q, r⟩
    · cases k
/-- a new list as an answer -/
theorem new_list {G : Gx} {F0 H0 F' H' : Hp} {vs : List V} {P : W → Prop} {Q : VK} (g : Go F0 H0 F' H') (r : Reps T F' vs ds) (q : P (.fr (.fl ds)))
    (k : ∀ z, P z → ∀ v F2 H2, Go F0 H0 F2 H2 → RepW T G H0 F2 H2 v z → Q v H2) (hp : H' p = none) : Q (.ref p) (upd H' p (.lst vs)) :=
  k _ q _ F' _ (g.lay hp) ⟨[p], .fl upd_same (g.ex.free hp) r, fun a q => by rw [List.mem_singleton.mp q]; exact g.h.free hp⟩
theorem new_tup {G : Gx} {F0 H0 F' H' : Hp} {vs : List V} {P : W → Prop} {Q : VK} (g : Go F0 H0 F' H') (r : Reps T F' vs ds) (q : P (.cl (.tup ds)))
    (k : ∀ z, P z → ∀ v F2 H2, Go F0 H0 F2 H2 → RepW T G H0 F2 H2 v z → Q v H2) (hp : H' p = none) : Q (.ref p) (upd H' p (.tup vs)) :=
  k _ q _ _ _ (g.new hp) (.tup upd_same (r.mono (Same.updN (g.ex.free hp))))
end
def dSz (n : Nat) : Prop := n ≤ 1000000
theorem dSz_line {n : Nat} (h : n ≤ 1000000) : n ≤ sizeLine := Nat.le_trans h (by decide)
theorem dSz_lt {n : Nat} (h : n < 1000000) : n < sizeLine := Nat.lt_of_lt_of_le h (by decide)
def dAdd : W → W → (W → Prop) → Prop := fun x y Q => match x, y with
  | .cl (.int i), .cl (.int j) => Q (.cl (.int (i + j)))
  | .cl (.str i), .cl (.str j) => i.length + j.length ≤ 1000000 ∧ Q (.cl (.str (i ++ j)))
  | x, y => match itemsC x, itemsC y with
    | some a, some b => a.length + b.length ≤ 1000000 ∧ Q (.fr (.fl (a ++ b)))
    | _, _ => False
def dMul : W → W → (W → Prop) → Prop := fun x y Q => match x, y with
  | .cl (.int i), .cl (.int j) => CM i j ∧ Q (.cl (.int (i * j)))
  | x, y => match itemsC x, y with
    | some a, .cl (.int k) => (-1000000 ≤ k ∧ k ≤ 1000000 ∧ a.length * k.toNat ≤ 1000000) ∧ Q (.fr (.fl (List.replicate k.toNat a).flatten))
    | _, _ => False
/-- the item at a place, from the end too -/
def ixD {α : Type} (ds : List α) (i : Int) : Option α := if 0 ≤ i then ds[i.toNat]? else if 0 ≤ i + ds.length then ds[(i + ds.length).toNat]? else none
theorem ixD_atI {α : Type} {ds : List α} {i : Int} {d : α} (h : ixD ds i = some d) : atI ds i = some d := by
  unfold ixD at h
  unfold atI ixN
  by_cases h0 : 0 ≤ i
  · rw [if_pos h0] at h
    have hl : i < ds.length := by
      have := (List.getElem?_eq_some_iff.mp h).1
      omega
    simp only [h0, hl, if_true]
    exact h
  · rw [if_neg h0] at h
    by_cases h1 : 0 ≤ i + ds.length
    · rw [if_pos h1] at h
      have : -(ds.length : Int) ≤ i := by omega
      simp only [h0, this, if_true, if_false]
      exact h
    · rw [if_neg h1] at h; cases h
theorem ixD_place {α : Type} {ds : List α} {i : Int} {d : α} (h : ixD ds i = some d) : ∃ j, ixN ds.length i = some j ∧ ds[j]? = some d := by
  have q := ixD_atI h
  unfold atI at q
  cases e : ixN ds.length i with
  | none => rw [e] at q; cases q
  | some j => rw [e] at q; exact ⟨j, rfl, q⟩
theorem Reps.atI {T : Tb} {F : Hp} {vs : List V} {ds : List D} {i : Int} {d : D} (r : Reps T F vs ds) (h : ixD ds i = some d) : ∃ v, atI vs i = some v ∧ Rep T F v d := by
  obtain ⟨j, hj, hd⟩ := ixD_place h
  obtain ⟨v, hv, rv⟩ := r.getD hd
  refine ⟨v, ?_, rv⟩
  unfold L2.atI
  rw [r.length, hj]
  exact hv
def dIx : W → W → (W → Prop) → Prop := fun x y Q => match seqC x, y with
  | some ds, .cl (.int i) => match ixD ds i with
    | some d => Q (.cl d)
    | none => False
  | _, _ => False
/-- a dict by its keys -/
def lookD : List D → List D → D → Option D
  | k :: ks, d :: ds, x => if eqD k x then some d else lookD ks ds x
  | _, _, _ => none
def inD (x : D) (ds : List D) : Bool := ds.any fun y => eqD y x
def dIn (neg : Bool) : W → W → (W → Prop) → Prop := fun x y Q => match lstC y with
  | some ds => okD x.toD = true ∧ okD (.lst ds) = true ∧ Q (.cl (.bl (if neg then !inD x.toD ds else inD x.toD ds)))
  | none => False
section
variable {T : Tb} {X : Cx}
theorem dAdd_inv {x y : W} {Q : W → Prop} (h : dAdd x y Q) : (∃ i j, x = .cl (.int i) ∧ y = .cl (.int j) ∧ Q (.cl (.int (i + j)))) ∨
    (∃ i j, x = .cl (.str i) ∧ y = .cl (.str j) ∧ i.length + j.length ≤ 1000000 ∧ Q (.cl (.str (i ++ j)))) ∨
    (∃ a b, itemsC x = some a ∧ itemsC y = some b ∧ a.length + b.length ≤ 1000000 ∧ Q (.fr (.fl (a ++ b)))) := by
  unfold dAdd at h
  split at h
  · exact .inl ⟨_, _, rfl, rfl, h⟩
  · exact .inr (.inl ⟨_, _, rfl, rfl, h⟩)
  · split at h
    · exact .inr (.inr ⟨_, _, by assumption, by assumption, h⟩)
    · exact h.elim
def rAddAll : R2 := fun x y H Q => (rI0 fun i j => .int (i + j)) x y H Q ∨ (∃ i j, x = .str i ∧ y = .str j ∧ i.length + j.length ≤ sizeLine ∧ Q (.str (i ++ j)) H) ∨ rCat x y H Q
theorem op_addAll : OpR X (binaryOp .Add) rAddAll := op_add.or (op_add_str.or op_cat)
theorem b_add : Bin2 T rAddAll dAdd := by
  intro G F H F' H' x y u w P Q go rx ry h k
  rcases dAdd_inv h with ⟨i, j, rfl, rfl, q⟩ | ⟨i, j, rfl, rfl, l, q⟩ | ⟨a, b, ea, eb, l, q⟩
  · exact .inl ⟨i, j, rep_int rx, rep_int ry, k _ q _ _ _ go (.int _)⟩
  · exact .inr (.inl ⟨i, j, rep_str rx, rep_str ry, dSz_line l, k _ q _ _ _ go (.str _)⟩)
  · obtain ⟨p1, vs, rfl, h1, r1⟩ := rx.items go.ex ea
    obtain ⟨p2, ws, rfl, h2, r2⟩ := ry.items go.ex eb
    refine .inr (.inr ⟨p1, p2, vs, ws, rfl, rfl, h1, h2, by rw [r1.length, r2.length]; exact dSz_line l, fun p hp => ?_⟩)
    exact new_list go (r1.append r2) q k hp
theorem dMul_inv {x y : W} {Q : W → Prop} (h : dMul x y Q) : (∃ i j, x = .cl (.int i) ∧ y = .cl (.int j) ∧ CM i j ∧ Q (.cl (.int (i * j)))) ∨
    (∃ a k, itemsC x = some a ∧ y = .cl (.int k) ∧ (-1000000 ≤ k ∧ k ≤ 1000000 ∧ a.length * k.toNat ≤ 1000000) ∧ Q (.fr (.fl (List.replicate k.toNat a).flatten))) := by
  unfold dMul at h
  split at h
  · exact .inl ⟨_, _, rfl, rfl, h⟩
  · split at h
    · exact .inr ⟨_, _, by assumption, rfl, h⟩
    · exact h.elim
def rMulAll : R2 := fun x y H Q => (rI CMul fun i j => .int (i * j)) x y H Q ∨ rRep x y H Q
theorem op_mulAll : OpR X (binaryOp .Mult) rMulAll := op_mul.or op_rep
theorem b_mulAll : Bin2 T rMulAll dMul := by
  intro G F H F' H' x y u w P Q go rx ry h k
  rcases dMul_inv h with ⟨i, j, rfl, rfl, c, q⟩ | ⟨a, n, ea, rfl, l, q⟩
  · exact .inl ⟨i, j, rep_int rx, rep_int ry, c, k _ q _ _ _ go (.int _)⟩
  · obtain ⟨p1, vs, rfl, h1, r1⟩ := rx.items go.ex ea
    refine .inr ⟨p1, n, vs, rfl, rep_int ry, h1, by omega, by omega, by rw [r1.length]; exact dSz_line l.2.2, fun p hp => ?_⟩
    exact new_list go (r1.replicate n.toNat) q k hp
theorem b_eq : Bin2 T (rEqD T.K) dEq := by
  intro G F H F' H' x y u w P Q go rx ry h k
  obtain ⟨o1, o2, q⟩ := h
  exact ⟨_, _, (rx.rep go.ex).dpo o1, (ry.rep go.ex).dpo o2, o1, o2, k _ q _ _ _ go (.bl _)⟩
theorem b_ne : Bin2 T (rNeD T.K) dNe := by
  intro G F H F' H' x y u w P Q go rx ry h k
  obtain ⟨o1, o2, q⟩ := h
  exact ⟨_, _, (rx.rep go.ex).dpo o1, (ry.rep go.ex).dpo o2, o1, o2, k _ q _ _ _ go (.bl _)⟩
def rIsN : R2 := fun x y H Q => y = .non ∧ Q (.bl (decide (x = .non))) H
def rNotN : R2 := fun x y H Q => y = .non ∧ Q (.bl (!decide (x = .non))) H
theorem op_isN1 : OpR X (compareOp .Is) rIsN := op_isN
theorem op_notN1 : OpR X (compareOp .IsNot) rNotN := op_notN
theorem own_ref {F H : Hp} {v : V} {m : M} {A : List Addr} (h : Own T F H v m A) (hm : refM m = true) : ∃ p, v = .ref p := by
  cases h with
  | cl r => cases hm
  | fl h f r => exact ⟨_, rfl⟩
  | fd h f d r => exact ⟨_, rfl⟩
  | tl h f x r => exact ⟨_, rfl⟩
  | td h f d x r => exact ⟨_, rfl⟩
  | ti h f d x r => exact ⟨_, rfl⟩
  | tp h x r => exact ⟨_, rfl⟩
  | nd q h f r => exact ⟨_, rfl⟩
theorem rep_nnon {F : Hp} {v : V} {d : D} (h : Rep T F v d) (hd : d ≠ .non) : v ≠ .non := by
  intro e; subst e; cases h; exact hd rfl
theorem isN_inv {x y : W} {Q : W → Prop} (h : dIsN x y Q) {G : Gx} {Hs F H : Hp} {v : V} (r : RepW T G Hs F H v x) : y = .cl .non ∧ Q (.cl (.bl (decide (v = .non)))) := by
  unfold dIsN at h
  split at h
  · cases rep_non r; exact ⟨rfl, h⟩
  · rename_i d hd; rw [decide_eq_false (rep_nnon r fun e => hd (by rw [e]))]; exact ⟨rfl, h⟩
  · obtain ⟨A, o, _⟩ := r; obtain ⟨p, rfl⟩ := own_ref o h.1; exact ⟨rfl, h.2⟩
  · obtain ⟨A, o⟩ := r; obtain ⟨p, rfl⟩ := own_ref o h.1; exact ⟨rfl, h.2⟩
  · obtain ⟨A, o, _⟩ := r; obtain ⟨p, rfl⟩ := own_ref o h.1; exact ⟨rfl, h.2⟩
  · exact h.elim
theorem notN_inv {x y : W} {Q : W → Prop} (h : dNotN x y Q) {G : Gx} {Hs F H : Hp} {v : V} (r : RepW T G Hs F H v x) : y = .cl .non ∧ Q (.cl (.bl (!decide (v = .non)))) := by
  unfold dNotN at h
  split at h
  · cases rep_non r; exact ⟨rfl, h⟩
  · rename_i d hd; rw [decide_eq_false (rep_nnon r fun e => hd (by rw [e]))]; exact ⟨rfl, h⟩
  · obtain ⟨A, o, _⟩ := r; obtain ⟨p, rfl⟩ := own_ref o h.1; exact ⟨rfl, h.2⟩
  · obtain ⟨A, o⟩ := r; obtain ⟨p, rfl⟩ := own_ref o h.1; exact ⟨rfl, h.2⟩
  · obtain ⟨A, o, _⟩ := r; obtain ⟨p, rfl⟩ := own_ref o h.1; exact ⟨rfl, h.2⟩
  · exact h.elim
theorem b_isN : Bin2 T rIsN dIsN := by
  intro G F H F' H' x y u w P Q go rx ry h k
  obtain ⟨e, q⟩ := isN_inv h rx
  subst e
  exact ⟨rep_non ry, k _ q _ _ _ go (.bl _)⟩
theorem b_notN : Bin2 T rNotN dNotN := by
  intro G F H F' H' x y u w P Q go rx ry h k
  obtain ⟨e, q⟩ := notN_inv h rx
  subst e
  exact ⟨rep_non ry, k _ q _ _ _ go (.bl _)⟩
theorem b_ix : Bin2 T (rIx T.K) dIx := by
  intro G F H F' H' x y u w P Q go rx ry h k
  unfold dIx at h
  split at h
  · rename_i ds i es
    split at h
    · rename_i d ed
      obtain ⟨p, vs, rfl, hs, r⟩ := rx.seq go.ex es
      obtain ⟨v, hv, rv⟩ := r.atI ed
      have qv := k _ h v _ _ go rv
      rcases hs with hs | hs
      · exact .inl ⟨p, vs, i, v, rfl, rep_int ry, hs, hv, qv⟩
      · exact .inr (.inl ⟨p, vs, i, v, rfl, rep_int ry, hs, hv, qv⟩)
    · exact h.elim
  · exact h.elim
/-- in a list (items of any depth); in a tuple of flat things -/
theorem pd_in (x : D) : ∀ ds : List D, ((pds ds).any fun z => PyData.eqv z (pd x)) = inD x ds
  | [] => rfl
  | d :: ds => by
    show (PyData.eqv (pd d) (pd x) || (pds ds).any fun z => PyData.eqv z (pd x)) = (eqD d x || inD x ds)
    rw [pd_in x ds]
    rfl
theorem b_in : Bin2 T (rInD T.K) (dIn false) := by
  intro G F H F' H' x y u w P Q go rx ry h k
  unfold dIn at h
  split at h
  · rename_i ds es
    obtain ⟨o1, o2, q⟩ := h
    obtain ⟨p, vs, rfl, hs, r⟩ := ry.lst go.ex es
    have o3 : PyData.canLayAll0 (pds ds) = true := by simpa [pd, PyData.canLay0] using SeqAt.canLay_of_shaped o2
    refine ⟨_, _, (rx.rep go.ex).dpo o1, .lst hs ((r.mono go.ex).dp o3), o1, o2, ?_⟩
    rw [pd_in]
    exact k _ q _ _ _ go (.bl _)
  · exact h.elim
theorem b_notIn : Bin2 T (rNotInD T.K) (dIn true) := by
  intro G F H F' H' x y u w P Q go rx ry h k
  unfold dIn at h
  split at h
  · rename_i ds es
    obtain ⟨o1, o2, q⟩ := h
    obtain ⟨p, vs, rfl, hs, r⟩ := ry.lst go.ex es
    have o3 : PyData.canLayAll0 (pds ds) = true := by simpa [pd, PyData.canLay0] using SeqAt.canLay_of_shaped o2
    refine ⟨_, _, (rx.rep go.ex).dpo o1, .lst hs ((r.mono go.ex).dp o3), o1, o2, ?_⟩
    rw [pd_in]
    exact k _ q _ _ _ go (.bl _)
  · exact h.elim
end
end Vl
namespace Vl
open PySem PySem.Spec PyProof.Rows L2

/-! ### arguments, displays -/
def aNil : AA := fun _ Q => Q []
def aCons (e : AE) (es : AA) : AA := fun δ Q => e δ fun w => es δ fun ws => Q (argW w :: ws)
def clDs : List W → Option (List D)
  | [] => some []
  | .cl d :: ws => (clDs ws).map (d :: ·)
  | _ :: _ => none
def aTup (es : AA) : AE := fun δ Q => es δ fun ws => match clDs ws with
  | some ds => ds.length ≤ 1000000 ∧ Q (.cl (.tup ds))
  | none => False
def aLst (es : AA) : AE := fun δ Q => es δ fun ws => match clDs ws with
  | some ds => ds.length ≤ 1000000 ∧ Q (.fr (.fl ds))
  | none => False
/-- a call by values -/
def aCB (f : List W → (W → Prop) → Prop) (es : AA) : AE := fun δ Q => es δ fun ws => f ws Q
def CallV (T : Tb) (r : List V → Hp → VK → Prop) (f : List W → (W → Prop) → Prop) : Prop := ∀ (G : Gx) (F H F' H' : Hp) (xs : List V) (ws : List W) (P : W → Prop) (Q : VK), Go F H F' H' → RepAs T G F' H' xs ws → f ws P →
  (∀ z, P z → ∀ v F2 H2, Go F H F2 H2 → RepW T G H F2 H2 v z → Q v H2) → r xs H' Q
section
variable {T : Tb} {X : Cx} {e : Expr} {es : List Expr} {x : AE} {xs : AA} {pos p : Pos} {G : Gx} {F H : Hp}
theorem reps_cl : ∀ {vs : List V} {ws : List W} {ds : List D}, RepAs T G F H vs ws → clDs ws = some ds → Reps T F vs ds
  | _, _, _, .nil, h => by cases h; exact .nil
  | _, .cl d :: ws, _, .cons r t, h => by
    unfold clDs at h
    cases q : clDs ws with
    | none => rw [q] at h; cases h
    | some es => rw [q] at h; cases h; exact .cons r (reps_cl t q)
  | _, .bw _ :: ws, _, .cons r t, h => by cases h
  | _, .ow _ :: ws, _, .cons r t, h => by cases h
  | _, .fr _ :: ws, _, .cons r t, h => by cases h
theorem a_nil : PA X [] (rdA T aNil) := pa_nil.mono fun σ H Q h => by
  obtain ⟨G, F, δ, P, R, h, k⟩ := h
  exact k _ h [] F H (Go.refl R.ex) .nil
theorem a_cons (ha : PE X e (rdE T x)) (hr : PA X es (rdA T xs)) (hs : starEach (e :: es) X.env = (false, eval e X.env) :: starEach es X.env := by rfl) : PA X (e :: es) (rdA T (aCons x xs)) :=
  (pa_cons ha hr hs).mono fun σ H Q h => by
    obtain ⟨G, F, δ, P, R, h, k⟩ := h
    refine ⟨G, F, δ, _, R, h, fun w hw v F1 H1 g r => ?_⟩
    obtain ⟨F2, g2, _, _, r2, _⟩ := RepW.arg g r
    refine ⟨G, F2, δ, _, R.go g2, hw, fun ws hws vs F3 H3 g3 r3 => ?_⟩
    exact k _ hws (v :: vs) F3 H3 (g2.trans g3) (.cons (r2.toA.go g3) r3)
theorem e_tup {x1} (h : PA X es (rdA T xs)) : PE X (.Tuple es x1 pos) (rdE T (aTup xs)) := (pe_tup h).mono fun σ H Q h => by
  obtain ⟨G, F, δ, P, R, h, k⟩ := h
  refine ⟨G, F, δ, _, R, h, fun ws hw vs F1 H1 g r => ?_⟩
  split at hw
  · rename_i ds hd
    obtain ⟨l, q⟩ := hw
    have rr := reps_cl r hd
    exact ⟨by rw [rr.length]; exact dSz_line l, fun p hp => new_tup g rr q k hp⟩
  · exact hw.elim
theorem e_lst (h : PA X es (rdA T xs)) : PE X (.List es pos) (rdE T (aLst xs)) := (pe_lst h).mono fun σ H Q h => by
  obtain ⟨G, F, δ, P, R, h, k⟩ := h
  refine ⟨G, F, δ, _, R, h, fun ws hw vs F1 H1 g r => ?_⟩
  split at hw
  · rename_i ds hd
    obtain ⟨l, q⟩ := hw
    have rr := reps_cl r hd
    exact ⟨by rw [rr.length]; exact dSz_line l, fun p hp => new_list g rr q k hp⟩
  · exact hw.elim
theorem rd_cb {r : List V → Hp → VK → Prop} {f : List W → (W → Prop) → Prop} (hf : CallV T r f) {σ : L2.St} {H : Hp} {Q : VK} (h : rdE T (aCB f xs) σ H Q) : tCB r (rdA T xs) σ H Q := by
  obtain ⟨G, F, δ, P, R, h, k⟩ := h
  exact ⟨G, F, δ, _, R, h, fun ws hw vs F1 H1 g r => hf G F H F1 H1 vs ws P Q g r hw k⟩
theorem e_cb {r : List V → Hp → VK → Prop} {f : List W → (W → Prop) → Prop} {s : Str} {id : String} (hc : CallR X (.builtin id) r) (hf : CallV T r f) (hg : Gl X s) (hm : X.mg s = none) (hv : bootBuiltins s = some (.builtin id)) (ha : PA X (e :: es) (rdA T xs)) (hn : s ≠ "__name__" := by decide) (hdb : (s == ("__debug__" : Str)) = false := by decide)
    (he : starEach (e :: es) X.env = (false, eval e X.env) :: starEach es X.env := by rfl) (hpl : (backTo pos (starEach es X.env)).any (·.1) = false := by rfl) : PE X (.Call (.Name s p) (e :: es) [] pos) (rdE T (aCB f xs)) :=
  (pe_callB hc hg hm hv ha hn hdb he hpl).mono fun _ _ _ h => rd_cb hf h
theorem e_cty {r : List V → Hp → VK → Prop} {f : List W → (W → Prop) → Prop} {s : Str} {id : String} (hc : CallR X (.type id) r) (hf : CallV T r f) (hg : Gl X s) (hm : X.mg s = none) (hv : bootBuiltins s = some (.type id)) (ha : PA X (e :: es) (rdA T xs)) (hn : s ≠ "__name__" := by decide) (hdb : (s == ("__debug__" : Str)) = false := by decide)
    (he : starEach (e :: es) X.env = (false, eval e X.env) :: starEach es X.env := by rfl) (hpl : (backTo pos (starEach es X.env)).any (·.1) = false := by rfl) : PE X (.Call (.Name s p) (e :: es) [] pos) (rdE T (aCB f xs)) :=
  (pe_callTy hc hg hm hv ha hn hdb he hpl).mono fun _ _ _ h => rd_cb hf h
theorem e_cbf {r : List V → Hp → VK → Prop} {f : List W → (W → Prop) → Prop} {s : Str} {id : String} (hc : CallR X (.builtin id) r) (hf : CallV T r f) (hg : Gl X s) (hm : X.mg s = some (.builtin id)) (ha : PA X (e :: es) (rdA T xs)) (hdb : (s == ("__debug__" : Str)) = false := by decide)
    (he : starEach (e :: es) X.env = (false, eval e X.env) :: starEach es X.env := by rfl) (hpl : (backTo pos (starEach es X.env)).any (·.1) = false := by rfl) : PE X (.Call (.Name s p) (e :: es) [] pos) (rdE T (aCB f xs)) :=
  (pe_callBfun hc hg hm ha hdb he hpl).mono fun _ _ _ h => rd_cb hf h
end

/-! ### built-ins by value -/
def one {α : Type} (f : W → α → Prop) : List W → α → Prop := fun ws Q => match ws with
  | [w] => f w Q
  | _ => False
def two {α : Type} (f : W → W → α → Prop) : List W → α → Prop := fun ws Q => match ws with
  | [w, u] => f w u Q
  | _ => False
def fLen : List W → (W → Prop) → Prop := one fun w Q => match w with
  | .cl (.str z) => z.length ≤ 1000000 ∧ Q (.cl (.int z.length))
  | .cl (.dct _ ks _) => Q (.cl (.int ks.length))
  | .bw (.fd _ ks _) => Q (.cl (.int ks.length))
  | .ow (.fd _ ks _) => Q (.cl (.int ks.length))
  | w => match seqC w with
    | some ds => Q (.cl (.int ds.length))
    | none => False
/-- len of lists, tuples, texts -/
def fLen1 : List W → (W → Prop) → Prop := one fun w Q => match w with
  | .cl (.str z) => z.length ≤ 1000000 ∧ Q (.cl (.int z.length))
  | w => match seqC w with
    | some ds => Q (.cl (.int ds.length))
    | none => False
def fInt : List W → (W → Prop) → Prop := one fun w Q => match w with
  | .cl (.int i) => Q (.cl (.int i))
  | .cl (.bl b) => Q (.cl (.int (if b then 1 else 0)))
  | _ => False
def fAbs : List W → (W → Prop) → Prop := one fun w Q => match w with
  | .cl (.int i) => Q (.cl (.int (if i < 0 then -i else i)))
  | _ => False
def fMax2 : List W → (W → Prop) → Prop := two fun w u Q => match w, u with
  | .cl (.int i), .cl (.int j) => Q (.cl (.int (if j > i then j else i)))
  | _, _ => False
def fMin2 : List W → (W → Prop) → Prop := two fun w u Q => match w, u with
  | .cl (.int i), .cl (.int j) => Q (.cl (.int (if j < i then j else i)))
  | _, _ => False
def fGcd : List W → (W → Prop) → Prop := two fun w u Q => match w, u with
  | .cl (.int i), .cl (.int j) => Q (.cl (.int ((Nat.gcd i.natAbs j.natAbs : Nat) : Int)))
  | _, _ => False
def fList : List W → (W → Prop) → Prop := one fun w Q => match seqC w with
  | some ds => Q (.fr (.fl ds))
  | none => False
section
variable {T : Tb} {X : Cx} {G : Gx} {F H : Hp}
theorem one_inv {α : Type} {f : W → α → Prop} {ws : List W} {Q : α} {xs : List V} (h : one f ws Q) (r : RepAs T G F H xs ws) : ∃ x w, xs = [x] ∧ ws = [w] ∧ RepW T G H F H x w ∧ f w Q := by
  unfold one at h
  split at h
  · rename_i w
    cases r with
    | cons r t => cases t; exact ⟨_, w, rfl, rfl, r.toW, h⟩
  · exact h.elim
theorem two_inv {α : Type} {f : W → W → α → Prop} {ws : List W} {Q : α} {xs : List V} (h : two f ws Q) (r : RepAs T G F H xs ws) : ∃ x y w u, xs = [x, y] ∧ ws = [w, u] ∧ RepW T G H F H x w ∧ RepW T G H F H y u ∧ f w u Q := by
  unfold two at h
  split at h
  · rename_i w u
    cases r with
    | cons r t => cases t with
      | cons r2 t => cases t; exact ⟨_, _, w, u, rfl, rfl, r.toW, r2.toW, h⟩
  · exact h.elim
def rLenAll (K : PySem.W.Frag) : List V → Hp → VK → Prop := fun xs H Q => (∃ z, xs = [.str z] ∧ z.length ≤ sizeLine ∧ Q (.int z.length) H) ∨ ∃ p ys, xs = [.ref p] ∧ (SqL K H p ys ∨ SqT K H p ys) ∧ Q (.int ys.length) H
theorem call_lenAll : CallR X (.builtin "len") (rLenAll X.K) := call_len_str.or call_len_seq
theorem c_len : CallV T (rLenAll T.K) fLen1 := by
  intro G F H F' H' xs ws P Q g r h k
  obtain ⟨x, w, rfl, rfl, rx, h⟩ := one_inv h r
  split at h
  · exact .inl ⟨_, by rw [rep_str rx], dSz_line h.1, k _ h.2 _ _ _ g (.int _)⟩
  · split at h
    · rename_i ds es
      obtain ⟨p, vs, rfl, hs, rr⟩ := rx.seq g.ex es
      refine .inr ⟨p, vs, rfl, hs, ?_⟩
      rw [rr.length]
      exact k _ h _ _ _ g (.int _)
    · exact h.elim
theorem c_int : CallV T (fun xs H Q => (∃ i, xs = [.int i] ∧ Q (.int i) H) ∨ ∃ k, xs = [.bl k] ∧ Q (.int (if k then 1 else 0)) H) fInt := by
  intro G F H F' H' xs ws P Q g r h k
  obtain ⟨x, w, rfl, rfl, rx, h⟩ := one_inv h r
  split at h
  · exact .inl ⟨_, by rw [rep_int rx], k _ h _ _ _ g (.int _)⟩
  · exact .inr ⟨_, by rw [rep_bl rx], k _ h _ _ _ g (.int _)⟩
  · exact h.elim
theorem c_abs : CallV T (fun xs H Q => ∃ i, xs = [.int i] ∧ Q (.int (if i < 0 then -i else i)) H) fAbs := by
  intro G F H F' H' xs ws P Q g r h k
  obtain ⟨x, w, rfl, rfl, rx, h⟩ := one_inv h r
  split at h
  · exact ⟨_, by rw [rep_int rx], k _ h _ _ _ g (.int _)⟩
  · exact h.elim
theorem c_max2 : CallV T (fun xs H Q => ∃ i j, xs = [.int i, .int j] ∧ Q (.int (if j > i then j else i)) H) fMax2 := by
  intro G F H F' H' xs ws P Q g r h k
  obtain ⟨x, y, w, u, rfl, rfl, rx, ry, h⟩ := two_inv h r
  split at h
  · exact ⟨_, _, by rw [rep_int rx, rep_int ry], k _ h _ _ _ g (.int _)⟩
  · exact h.elim
theorem c_min2 : CallV T (fun xs H Q => ∃ i j, xs = [.int i, .int j] ∧ Q (.int (if j < i then j else i)) H) fMin2 := by
  intro G F H F' H' xs ws P Q g r h k
  obtain ⟨x, y, w, u, rfl, rfl, rx, ry, h⟩ := two_inv h r
  split at h
  · exact ⟨_, _, by rw [rep_int rx, rep_int ry], k _ h _ _ _ g (.int _)⟩
  · exact h.elim
theorem c_gcd : CallV T rGcd fGcd := by
  intro G F H F' H' xs ws P Q g r h k
  obtain ⟨x, y, w, u, rfl, rfl, rx, ry, h⟩ := two_inv h r
  split at h
  · exact ⟨_, _, by rw [rep_int rx, rep_int ry], k _ h _ _ _ g (.int _)⟩
  · exact h.elim
theorem c_list : CallV T (fun xs H Q => ∃ p ys, xs = [.ref p] ∧ (SqL T.K H p ys ∨ SqT T.K H p ys) ∧ ∀ l, H l = none → Q (.ref l) (upd H l (.lst ys))) fList := by
  intro G F H F' H' xs ws P Q g r h k
  obtain ⟨x, w, rfl, rfl, rx, h⟩ := one_inv h r
  split at h
  · rename_i ds es
    obtain ⟨p, vs, rfl, hs, rr⟩ := rx.seq g.ex es
    exact ⟨p, vs, rfl, hs, fun l hl => new_list g rr h k hl⟩
  · exact h.elim
end

/-! ### isinstance(x, T), T a built-in class -/
def tyN : D → Option String
  | .non => some "NoneType"
  | .bl _ => some "bool"
  | .int _ => some "int"
  | .str _ => some "str"
  | .tup _ => some "tuple"
  | .lst _ => some "list"
  | .dct _ _ _ => some "dict"
  | _ => none
def isiT : List (String × String × Bool) := [("NoneType", "bool", false), ("NoneType", "int", false), ("NoneType", "list", false), ("NoneType", "tuple", false), ("NoneType", "str", false),
  ("bool", "bool", true), ("bool", "int", true), ("bool", "list", false), ("bool", "tuple", false), ("bool", "str", false),
  ("int", "bool", false), ("int", "int", true), ("int", "list", false), ("int", "tuple", false), ("int", "str", false),
  ("str", "bool", false), ("str", "int", false), ("str", "list", false), ("str", "tuple", false), ("str", "str", true),
  ("tuple", "bool", false), ("tuple", "int", false), ("tuple", "list", false), ("tuple", "tuple", true), ("tuple", "str", false),
  ("list", "bool", false), ("list", "int", false), ("list", "list", true), ("list", "tuple", false), ("list", "str", false)]
theorem isiT_ok : ∀ p ∈ isiT, kitB p.1 p.2.1 = some p.2.2 := by decide +kernel
def isiF (d : D) (t : String) : Option Bool := (tyN d).bind fun n => (isiT.find? fun p => p.1 == n && p.2.1 == t).map (·.2.2)
theorem isiF_inv {d : D} {t : String} {b : Bool} (h : isiF d t = some b) : ∃ n, tyN d = some n ∧ (n, t, b) ∈ isiT := by
  unfold isiF at h
  cases e : tyN d with
  | none => rw [e] at h; cases h
  | some n =>
    rw [e] at h
    have h : (isiT.find? fun p => p.1 == n && p.2.1 == t).map (·.2.2) = some b := h
    cases e2 : isiT.find? fun p => p.1 == n && p.2.1 == t with
    | none => rw [e2] at h; cases h
    | some p =>
      rw [e2] at h
      have h : some p.2.2 = some b := h
      cases h
      have h1 := List.find?_some e2
      have h2 := List.mem_of_find?_eq_some e2
      simp only [Bool.and_eq_true, beq_iff_eq] at h1
      refine ⟨n, rfl, ?_⟩
      obtain ⟨p1, p2, p3⟩ := p
      obtain ⟨rfl, rfl⟩ := h1
      exact h2
def aIsi (t : String) (a : AE) : AE := fun δ Q => a δ fun w => match isiF w.toD t with
  | some b => Q (.cl (.bl b))
  | none => False
section
variable {T : Tb} {X : Cx} {G : Gx} {F H : Hp}
theorem dct_ty {t : Bool} {o : HO} {ks : List (List Key)} {vs : List V} {a : Addr} (d : DctO t o ks vs) (q : H a = some o) : TyX T.K H (.ref a) (.type "dict") := by
  cases t with
  | false => obtain ⟨_, kvs, rfl, _⟩ := d; exact .base (.dK q)
  | true => obtain ⟨_, kvs, rfl, _⟩ := d; exact .base (.dT q)
theorem rep_ty {v : V} {d : D} {n : String} (r : Rep T H v d) (h : tyN d = some n) : TyX T.K H v (.type n) := by
  cases r with
  | non => cases h; exact .base .non
  | bl b => cases h; exact .base (.bl b)
  | int b => cases h; exact .base (.int b)
  | str b => cases h; exact .base (.str b)
  | tup q _ => cases h; exact .base (.tup q)
  | lst q _ => cases h; exact .base (.lst q)
  | dct q d _ => cases h; exact dct_ty d q
  | ins _ _ _ => cases h
  | nd _ _ _ => cases h
  | scr _ => cases h
theorem e_isi {e : Expr} {x : AE} {t : String} {s : Str} {p p2 pos : Pos} (hm : X.mg "isinstance" = none) (hg : Gl X "isinstance") (hg2 : Gl X s) (hm2 : X.mg s = none) (hv2 : bootBuiltins s = some (.type t)) (ha : PE X e (rdE T x)) (hTK : T.K = X.K)
    (hn : s ≠ "__name__" := by decide) (hd : (s == ("__debug__" : Str)) = false := by decide)
    (hs1 : starEach [e, .Name s p2] X.env = (false, eval e X.env) :: starEach [.Name s p2] X.env := by rfl) (hs2 : starEach [.Name s p2] X.env = (false, eval (.Name s p2) X.env) :: starEach [] X.env := by rfl) (hpl : (backTo pos (starEach [.Name s p2] X.env)).any (·.1) = false := by rfl) :
    PE X (.Call (.Name "isinstance" p) [e, .Name s p2] [] pos) (rdE T (aIsi t x)) := by
  refine (pe_callB call_isi hg hm (by decide +kernel) (pa_cons ha (pa_cons (pe_bltn (v := .ty t) hg2 hm2 hv2 rfl hn hd) pa_nil hs2) hs1) (by decide) (by decide) hs1 hpl).mono fun σ H Q h => ?_
  obtain ⟨G, F, δ, P, R, h, k⟩ := h
  refine ⟨G, F, δ, _, R, h, fun w hw v F1 H1 g r => ?_⟩
  split at hw
  · rename_i b hb0
    obtain ⟨n, hn, hb⟩ := isiF_inv hb0
    have q := hw
    refine ⟨v, .ty t, .type n, .type t, b, rfl, .ty t, ?_, kit_ty (isiT_ok _ hb), k _ q _ _ _ g (.bl b)⟩
    rw [← hTK]
    exact rep_ty (r.rep g.ex) hn
  · exact hw.elim
end

/-! ### and, or, not, if: values and tests -/
def aAndV (a b : AE) : AE := fun δ Q => a δ fun w => match w with
  | .cl (.bl true) => b δ Q
  | .cl (.bl false) => Q (.cl (.bl false))
  | _ => False
def aOrV (a b : AE) : AE := fun δ Q => a δ fun w => match w with
  | .cl (.bl true) => Q (.cl (.bl true))
  | .cl (.bl false) => b δ Q
  | _ => False
def dNot : W → (W → Prop) → Prop := fun w Q => match w with
  | .cl (.bl b) => Q (.cl (.bl (!b)))
  | _ => False
def aB (a : AE) : AT := fun δ Q => a δ fun w => match w with
  | .cl (.bl b) => Q b
  | _ => False
def aAnd (a b : AT) : AT := fun δ Q => a δ fun c => if c = true then b δ Q else Q false
def aOr (a b : AT) : AT := fun δ Q => a δ fun c => if c = true then Q true else b δ Q
def aNot (a : AT) : AT := fun δ Q => a δ fun c => Q (!c)
def aIfE (t : AT) (a b : AE) : AE := fun δ Q => t δ fun c => if c = true then a δ Q else b δ Q
section
variable {T : Tb} {X : Cx} {a b c : Expr} {x y : AE} {t u : AT} {pos : Pos} {rest : List Expr}
theorem e_one {op} (h : PE X a (rdE T x)) : PE X (.BoolOp op [a] pos) (rdE T x) := pe_one h
theorem e_and (ha : PE X a (rdE T x)) (hb : PE X (.BoolOp .And (b :: rest) pos) (rdE T y)) : PE X (.BoolOp .And (a :: b :: rest) pos) (rdE T (aAndV x y)) := (pe_and ha hb).mono fun σ H Q h => by
  obtain ⟨G, F, δ, P, R, h, k⟩ := h
  refine ⟨G, F, δ, _, R, h, fun w hw v F1 H1 g r => ?_⟩
  split at hw
  · refine ⟨true, rep_bl r, ?_⟩
    rw [if_pos rfl]
    exact ⟨G, F1, δ, P, R.go g, hw, fun z hz v F2 H2 g2 r2 => k z hz v F2 H2 (g.trans g2) (r2.back g.h)⟩
  · refine ⟨false, rep_bl r, ?_⟩
    rw [if_neg Bool.false_ne_true]
    exact k _ hw _ _ _ g (.bl _)
  · exact hw.elim
theorem e_or (ha : PE X a (rdE T x)) (hb : PE X (.BoolOp .Or (b :: rest) pos) (rdE T y)) : PE X (.BoolOp .Or (a :: b :: rest) pos) (rdE T (aOrV x y)) := (pe_or ha hb).mono fun σ H Q h => by
  obtain ⟨G, F, δ, P, R, h, k⟩ := h
  refine ⟨G, F, δ, _, R, h, fun w hw v F1 H1 g r => ?_⟩
  split at hw
  · refine ⟨true, rep_bl r, ?_⟩
    rw [if_pos rfl]
    exact k _ hw _ _ _ g (.bl _)
  · refine ⟨false, rep_bl r, ?_⟩
    rw [if_neg Bool.false_ne_true]
    exact ⟨G, F1, δ, P, R.go g, hw, fun z hz v F2 H2 g2 r2 => k z hz v F2 H2 (g.trans g2) (r2.back g.h)⟩
  · exact hw.elim
theorem e_not (ha : PE X a (rdE T x)) : PE X (.UnaryOp .Not a pos) (rdE T (aUn dNot x)) := (pe_not ha).mono fun σ H Q h => by
  obtain ⟨G, F, δ, P, R, h, k⟩ := h
  refine ⟨G, F, δ, _, R, h, fun w hw v F1 H1 g r => ?_⟩
  unfold dNot at hw
  split at hw
  · exact ⟨_, rep_bl r, k _ hw _ _ _ g (.bl _)⟩
  · exact hw.elim
theorem t_val (h : PE X a (rdE T x)) (he : ∀ whole, isTrue a X.env whole = (do let v ← whole; standAt a.pos; holding [v] (truthy v)) := by intro _; rfl) : PT X a (rdT T (aB x)) := (pt_val h he).mono fun σ H Q h => by
  obtain ⟨G, F, δ, P, R, h, k⟩ := h
  refine ⟨G, F, δ, _, R, h, fun w hw v F1 H1 g r => ?_⟩
  split at hw
  · exact ⟨_, rep_bl r, k _ hw _ _ g⟩
  · exact hw.elim
theorem t_cmp {op : CmpOp} {r : R2} {f : W → W → (W → Prop) → Prop} (ho : OpR X (compareOp op) r) (hf : Bin2 T r f) (ha : PE X a (rdE T x)) (hb : PE X b (rdE T y)) (hm : behindInMarks op b = false) : PT X (.Compare a [op] [b] pos) (rdT T (aB (aBin f x y))) :=
  (pt_cmpR ho ha hb hm).mono fun σ H Q h => by
    obtain ⟨G, F, δ, P, R, h, k⟩ := h
    refine rd_bin hf ⟨G, F, δ, _, R, h, fun w hw v F1 H1 g r => ?_⟩
    split at hw
    · exact ⟨_, rep_bl r, k _ hw _ _ g⟩
    · exact hw.elim
theorem w_and1 (h : PT X a (rdT T t)) : PW X (.BoolOp .And [a] pos) (rdT T t) := pw_and1 h
theorem w_or1 (h : PT X a (rdT T t)) : PW X (.BoolOp .Or [a] pos) (rdT T t) := pw_or1 h
theorem w_and (ha : PT X a (rdT T t)) (hb : PW X (.BoolOp .And (b :: rest) pos) (rdT T u)) : PW X (.BoolOp .And (a :: b :: rest) pos) (rdT T (aAnd t u)) := (pw_and ha hb).mono fun σ H Q h => by
  obtain ⟨G, F, δ, P, R, h, k⟩ := h
  refine ⟨G, F, δ, _, R, h, fun c hc F1 H1 g => ?_⟩
  cases c with
  | true => exact ⟨G, F1, δ, P, R.go g, hc, fun z hz F2 H2 g2 => k z hz F2 H2 (g.trans g2)⟩
  | false => exact k _ hc _ _ g
theorem w_or (ha : PT X a (rdT T t)) (hb : PW X (.BoolOp .Or (b :: rest) pos) (rdT T u)) : PW X (.BoolOp .Or (a :: b :: rest) pos) (rdT T (aOr t u)) := (pw_or ha hb).mono fun σ H Q h => by
  obtain ⟨G, F, δ, P, R, h, k⟩ := h
  refine ⟨G, F, δ, _, R, h, fun c hc F1 H1 g => ?_⟩
  cases c with
  | false => exact ⟨G, F1, δ, P, R.go g, hc, fun z hz F2 H2 g2 => k z hz F2 H2 (g.trans g2)⟩
  | true => exact k _ hc _ _ g
theorem t_not (h : PT X a (rdT T t)) : PT X (.UnaryOp .Not a pos) (rdT T (aNot t)) := (pt_not h).mono fun σ H Q h => by
  obtain ⟨G, F, δ, P, R, h, k⟩ := h
  exact ⟨G, F, δ, _, R, h, fun c hc F1 H1 g => k _ hc _ _ g⟩
theorem e_if (ht : PT X c (rdT T t)) (ha : PE X a (rdE T x)) (hb : PE X b (rdE T y)) : PE X (.IfExp c a b pos) (rdE T (aIfE t x y)) := (pe_ifExp ht ha hb).mono fun σ H Q h => by
  obtain ⟨G, F, δ, P, R, h, k⟩ := h
  refine ⟨G, F, δ, _, R, h, fun c hc F1 H1 g => ?_⟩
  cases c with
  | true => exact ⟨G, F1, δ, P, R.go g, hc, fun z hz v F2 H2 g2 r2 => k z hz v F2 H2 (g.trans g2) (r2.back g.h)⟩
  | false => exact ⟨G, F1, δ, P, R.go g, hc, fun z hz v F2 H2 g2 r2 => k z hz v F2 H2 (g.trans g2) (r2.back g.h)⟩
end
end Vl
namespace Vl
open PySem PySem.Spec PyProof.Rows L2

/-! ### statements -/
def slotA : W → Option AV
  | .cl d => some (.im d)
  | .fr m => some (.ow false m)
  | .bw m => some (.bw m)
  | .ow _ => none
def aNext : AS := fun E δ => E.nx δ
def aSeq (s t : AS) : AS := fun E δ => s { E with nx := t E } δ
/-- what follows is shown once -/
def aCut (s t : AS) : AS := fun E δ => ∃ Mid : List AV → Prop, s { E with nx := Mid } δ ∧ ∀ δ', Mid δ' → t E δ'
def aSet (i : Nat) (e : AE) : AS := fun E δ => e δ fun w => match slotA w with
  | some a => E.nx (δ.set i a)
  | none => False
def aDrop (e : AE) : AS := fun E δ => e δ fun _ => E.nx δ
def aIf (t : AT) (s u : AS) : AS := fun E δ => t δ fun b => if b = true then s E δ else u E δ
def aRet (e : AE) : AS := fun E δ => e δ fun w => match w with
  | .cl d => E.rt (.cl d) δ
  | .fr m => E.rt (.fr m) δ
  | _ => False
/-- a local of the def's own is handed back -/
def aRetV (i : Nat) : AS := fun E δ => match gt δ i with
  | .im d => E.rt (.cl d) δ
  | .ow false m => E.rt (.fr m) δ
  | _ => False
def aRetN : AS := fun E δ => E.rt (.cl .non) δ
def aBreak : AS := fun E δ => E.bk δ
def aCont : AS := fun E δ => E.ct δ
/-- from here on the i-th slot's list is changed by nobody -/
def frz (i : Nat) (δ : List AV) : List AV := match gt δ i with
  | .ow false m => δ.set i (.im m.toD)
  | _ => δ
def aFrz (i : Nat) (s : AS) : AS := fun E δ => s E (frz i δ)

section
variable {T : Tb} {G : Gx} {F F' F1 H H' H1 : Hp} {σ : L2.St} {δ : List AV} {v : V} {w : W} {m m' : M} {p : Addr} {i j : Nat} {a : AV} {l : Bool} {o : HO}
theorem gs_ref (h : gs σ i = some v) : i < σ.length := by
  have := gs_some h
  exact (List.getElem?_eq_some_iff.mp this).1
theorem gt_lt (h : gt δ i ≠ .non) : i < δ.length := by
  unfold gt at h
  rw [List.getD_eq_getElem?_getD] at h
  cases q : δ[i]? with
  | none => rw [q] at h; exact absurd rfl h
  | some _ => exact (List.getElem?_eq_some_iff.mp q).1
/-- a slot is stored -/
theorem RepS.put (R : RepS T G F H σ δ) (h : SlotOk T G F H (some v) a) (hd : ∀ l m, a = .ow l m → ∀ j l' m' w A B, j ≠ i → gt δ j = .ow l' m' → gs σ j = some w → Own T F H v m A → Own T F H w m' B → ∀ x ∈ A, x ∉ B) : RepS T G F H (σ.set i (some v)) (δ.set i a) where
  ex := R.ex
  fr := R.fr
  th := R.th
  lh := R.lh
  f0 := R.f0
  fn := R.fn
  len := by rw [List.length_set, List.length_set]; exact R.len
  sl := fun j => by
    by_cases hi : i < σ.length
    · have hi' : i < δ.length := R.len ▸ hi
      rw [gs_set hi, gt_set hi']
      by_cases e : i = j
      · rw [if_pos e, if_pos e]; exact h
      · rw [if_neg e, if_neg e]; exact R.sl j
    · have hi' : ¬ i < δ.length := R.len ▸ hi
      rw [gs_out hi, gt_out hi']; exact R.sl j
  dj := fun j k l l' m m' u w A B ne e1 e2 e3 e4 o1 o2 => by
    by_cases hi : i < σ.length
    · have hi' : i < δ.length := R.len ▸ hi
      rw [gs_set hi] at e3 e4
      rw [gt_set hi'] at e1 e2
      by_cases ej : i = j
      · have ek : ¬ i = k := fun z => ne (ej.symm.trans z)
        rw [if_pos ej] at e1 e3
        rw [if_neg ek] at e2 e4
        cases e3
        exact hd _ _ e1 k _ _ _ _ _ (fun z => ek z.symm) e2 e4 o1 o2
      · by_cases ek : i = k
        · rw [if_neg ej] at e1 e3
          rw [if_pos ek] at e2 e4
          cases e4
          intro x hx hb
          exact hd _ _ e2 j _ _ _ _ _ (fun z => ej z.symm) e1 e3 o2 o1 x hb hx
        · rw [if_neg ej] at e1 e3
          rw [if_neg ek] at e2 e4
          exact R.dj j k l l' m m' u w A B ne e1 e2 e3 e4 o1 o2
    · have hi' : ¬ i < δ.length := R.len ▸ hi
      rw [gs_out hi] at e3 e4
      rw [gt_out hi'] at e1 e2
      exact R.dj j k l l' m m' u w A B ne e1 e2 e3 e4 o1 o2
theorem RepS.store (R : RepS T G F H σ δ) (g : Go F H F1 H1) (r : RepW T G H F1 H1 v w) (hs : slotA w = some a) : RepS T G F1 H1 (σ.set i (some v)) (δ.set i a) := by
  refine (R.go g).put ?_ ?_
  · cases w with
    | cl d => cases hs; exact ⟨v, rfl, r⟩
    | fr m =>
      cases hs
      obtain ⟨A, o, hA⟩ := r
      refine ⟨v, A, rfl, o, ?_⟩
      unfold OwS
      rw [if_neg Bool.false_ne_true]
      exact fun x q => Classical.byContradiction fun z => R.th x z (hA x q)
    | bw m => cases hs; obtain ⟨A, o, hA⟩ := r; exact ⟨v, A, rfl, o, hA⟩
    | ow m => cases hs
  · intro l m e j l' m' w' A B nj ej hj oA oB
    cases w with
    | cl d => cases hs; cases e
    | fr m2 =>
      cases hs; cases e
      obtain ⟨A', o, hA⟩ := r
      cases Own.det oA o
      obtain ⟨w2, B', e2, o2, _⟩ := R.own ej
      rw [hj] at e2; cases e2
      cases Own.det oB (o2.go g)
      exact fun x q z => (o2.mem x z).1 (hA x q)
    | bw m => cases hs; cases e
    | ow m => cases hs
/-- an own tree is changed within its own objects, and by new ones -/
theorem RepS.step {A A' : List Addr} {Fb Hb F' H' : Hp} (Rb : RepS T G Fb Hb σ δ) (g : Go Fb Hb F H) (e : gt δ i = .ow l m) (hv : gs σ i = some v) (hA : Own T F H v m A) (ex : Same F' H') (sF : Same F F') (nF : ∀ a, a ∉ A → H a ≠ none → NT H' a → F' a = F a)
    (fr : ∀ a, a ∉ A → H a ≠ none → H' a = H a) (th : ∀ a, H a ≠ none → H' a ≠ none) (o : Own T F' H' v m' A') (hA' : ∀ a ∈ A', a ∈ A ∨ Hb a = none) : RepS T G F' H' σ (δ.set i (.ow l m')) := by
  have R := Rb.go g
  obtain ⟨v2, A2, e2, o2, os⟩ := R.own e
  rw [hv] at e2; cases e2
  cases Own.det hA o2
  have hi' : i < δ.length := gt_lt (by rw [e]; simp)
  have keep : ∀ {w : V} {m2 : M} {B : List Addr}, Own T F H w m2 B → (∀ a ∈ B, a ∉ A) → Own T F' H' w m2 B := fun {w m2 B} ob nd => ob.keep sF (fun a q => fr a (nd a q) (ob.mem a q).1) fun a q n => (nF a (nd a q) (ob.mem a q).1 (n.at (fr a (nd a q) (ob.mem a q).1))).trans ((ob.mem a q).2 n)
  have outL : ∀ a, G.H0 a ≠ none → a ∉ G.L → a ∉ A := fun a h1 h2 q => by
    unfold OwS at os
    cases l with
    | true =>
      have os : v = G.r ∧ ∀ a ∈ A, a ∈ G.L ∨ G.H0 a = none := os
      rcases os.2 a q with z | z
      · exact h2 z
      · exact h1 z
    | false =>
      have os : ∀ a ∈ A, G.H0 a = none := os
      exact h1 (os a q)
  have slotj : ∀ j, j ≠ i → SlotOk T G F' H' (gs σ j) (gt δ j) := fun j nj => by
    have q := R.sl j
    revert q
    generalize hg : gt δ j = aj
    intro q
    cases aj with
    | non => trivial
    | im d => obtain ⟨w, e1, r⟩ := q; exact ⟨w, e1, r.mono sF⟩
    | bw m2 =>
      obtain ⟨w, B, e1, ob, hb⟩ := q
      exact ⟨w, B, e1, keep ob fun a z => outL a (hb a z).2 (hb a z).1, hb⟩
    | ow l2 m2 =>
      obtain ⟨w, B, e1, ob, hb⟩ := q
      exact ⟨w, B, e1, keep ob fun a z z2 => R.dj i j l l2 m m2 v w A B (fun y => nj y.symm) e hg hv e1 hA ob a z2 z, hb⟩
  refine ⟨ex, fun a x h1 h2 => ?_, fun a h1 => th a (R.th a h1), R.lh, R.f0.trans sF, fun a h1 l1 n => (nF a (outL a h1 l1) (R.th a h1) n).trans (R.fn a h1 l1 (n.at (fr a (outL a h1 l1) (R.th a h1)).symm)), by rw [List.length_set]; exact R.len, fun j => ?_, fun j k l1 l2 m1 m2 u w B C ne e1 e2 e3 e4 o1 o3 => ?_⟩
  · have h3 := R.fr a x h1 h2
    rw [fr a (outL a (by rw [h1]; simp) h2) (by rw [h3]; simp)]; exact h3
  · rw [gt_set hi']
    by_cases ej : i = j
    · rw [if_pos ej, ← ej, hv]
      refine ⟨v, A', rfl, o, ?_⟩
      unfold OwS at os ⊢
      cases l with
      | true =>
        have os : v = G.r ∧ ∀ a ∈ A, a ∈ G.L ∨ G.H0 a = none := os
        refine ⟨os.1, fun a q => ?_⟩
        rcases hA' a q with z | z
        · exact os.2 a z
        · exact .inr (Classical.byContradiction fun y => Rb.th a y z)
      | false =>
        have os : ∀ a ∈ A, G.H0 a = none := os
        intro a q
        rcases hA' a q with z | z
        · exact os a z
        · exact Classical.byContradiction fun y => Rb.th a y z
    · rw [if_neg ej]; exact slotj j fun z => ej z.symm
  · have other : ∀ {j l1 m1 u B}, j ≠ i → gt δ j = .ow l1 m1 → gs σ j = some u → Own T F' H' u m1 B → ∀ a ∈ B, a ∉ A' := fun {j l1 m1 u B} nj ej es ob a q z => by
      obtain ⟨w, B', e1, ob0, _⟩ := Rb.own ej
      have ob' := ob0.go g
      rw [es] at e1; cases e1
      have dd := R.dj i j l l1 m m1 v u A B' (fun y => nj y.symm) e ej hv es hA ob'
      cases Own.det ob (keep ob' fun a z z2 => dd a z2 z)
      rcases hA' a z with y | y
      · exact dd a y q
      · exact (ob0.mem a q).1 y
    rw [gt_set hi'] at e1 e2
    by_cases ej : i = j
    · rw [if_pos ej] at e1; cases e1
      have nk : k ≠ i := fun z => ne (ej.symm.trans z.symm)
      rw [if_neg fun z => nk z.symm] at e2
      rw [← ej, hv] at e3; cases e3
      cases Own.det o1 o
      intro a q z
      exact other nk e2 e4 o3 a z q
    · rw [if_neg ej] at e1
      by_cases ek : i = k
      · rw [if_pos ek] at e2; cases e2
        rw [← ek, hv] at e4; cases e4
        cases Own.det o3 o
        exact other (fun z => ej z.symm) e1 e3 o1
      · rw [if_neg ek] at e2
        obtain ⟨w1, B1, q1, ob1, _⟩ := R.own e1
        obtain ⟨w2, B2, q2, ob2, _⟩ := R.own e2
        rw [e3] at q1; cases q1
        rw [e4] at q2; cases q2
        have d1 := R.dj i j l l1 m m1 v u A B1 ej e e1 hv e3 hA ob1
        have d2 := R.dj i k l l2 m m2 v w A B2 ek e e2 hv e4 hA ob2
        cases Own.det o1 (keep ob1 fun a z z2 => d1 a z2 z)
        cases Own.det o3 (keep ob2 fun a z z2 => d2 a z2 z)
        exact R.dj j k l1 l2 m1 m2 u w _ _ ne e1 e2 e3 e4 ob1 ob2
/-- an own object is changed by nobody from here on -/
theorem RepS.frz (R : RepS T G F H σ δ) (i : Nat) : ∃ F', Same F F' ∧ RepS T G F' H σ (frz i δ) := by
  unfold Vl.frz
  split
  · rename_i m e
    obtain ⟨v, A, hv, o, os⟩ := R.own e
    have os : ∀ a ∈ A, G.H0 a = none := os
    have hi' : i < δ.length := gt_lt (by rw [e]; simp)
    have sm : Same F (ext F A H) := ext_same R.ex
    have keep : ∀ {w : V} {m2 : M} {B : List Addr}, Own T F H w m2 B → (∀ a ∈ B, a ∉ A) → Own T (ext F A H) H w m2 B := fun {w m2 B} ob nd => ob.keep sm (fun _ _ => rfl) fun a q n => (ext_out (nd a q)).trans ((ob.mem a q).2 n)
    have slotj : ∀ j, j ≠ i → SlotOk T G (ext F A H) H (gs σ j) (gt δ j) := fun j nj => by
      have q := R.sl j
      revert q
      generalize hg : gt δ j = aj
      intro q
      cases aj with
      | non => trivial
      | im d => obtain ⟨w, e1, r⟩ := q; exact ⟨w, e1, r.mono sm⟩
      | bw m2 =>
        obtain ⟨w, B, e1, ob, hb⟩ := q
        exact ⟨w, B, e1, keep ob fun a z z2 => (hb a z).2 (os a z2), hb⟩
      | ow l2 m2 =>
        obtain ⟨w, B, e1, ob, hb⟩ := q
        exact ⟨w, B, e1, keep ob fun a z z2 => R.dj i j false l2 m m2 v w A B (fun y => nj y.symm) e hg hv e1 o ob a z2 z, hb⟩
    refine ⟨ext F A H, sm, fun a x h1 => ?_, R.fr, R.th, R.lh, R.f0.trans sm, fun a h1 => ?_, by rw [List.length_set]; exact R.len, fun j => ?_, fun j k l1 l2 m1 m2 u w B C ne e1 e2 e3 e4 o1 o2 => ?_⟩
    · by_cases q : a ∈ A
      · rw [ext_in q] at h1; exact h1
      · rw [ext_out q] at h1; exact R.ex _ _ h1
    · rw [ext_out fun z => h1 (os a z)]; exact R.fn a h1
    · rw [gt_set hi']
      by_cases ej : i = j
      · rw [if_pos ej, ← ej, hv]
        exact ⟨v, rfl, o.frz sm fun a q => ext_in q⟩
      · rw [if_neg ej]; exact slotj j fun z => ej z.symm
    · rw [gt_set hi'] at e1 e2
      by_cases q : i = j
      · rw [if_pos q] at e1; cases e1
      · by_cases q2 : i = k
        · rw [if_pos q2] at e2; cases e2
        · rw [if_neg q] at e1; rw [if_neg q2] at e2
          obtain ⟨w1, B1, z1, ob1, _⟩ := R.own e1
          obtain ⟨w2, B2, z2, ob2, _⟩ := R.own e2
          rw [e3] at z1; cases z1
          rw [e4] at z2; cases z2
          have d1 := R.dj i j false l1 m m1 v u A B1 q e e1 hv e3 o ob1
          have d2 := R.dj i k false l2 m m2 v w A B2 q2 e e2 hv e4 o ob2
          cases Own.det o1 (keep ob1 fun a z z2 => d1 a z2 z)
          cases Own.det o2 (keep ob2 fun a z z2 => d2 a z2 z)
          exact R.dj j k l1 l2 m1 m2 u w _ _ ne e1 e2 e3 e4 ob1 ob2
  · exact ⟨F, Same.refl _, R⟩
/-- what is handed back from a new value -/
theorem RepS.apart (R : RepS T G F H σ δ) (g : Go F H F1 H1) (r : RepW T G H F1 H1 v w) : Apart T F1 H1 σ δ v w := by
  intro m i m' u A B e e1 e2 o1 o2 a q z
  subst e
  obtain ⟨A', o, hA⟩ := r
  cases Own.det o1 o
  obtain ⟨u', B', e3, o3, _⟩ := R.own e1
  rw [e2] at e3; cases e3
  cases Own.det o2 (o3.go g)
  exact (o3.mem a z).1 (hA a q)
theorem apart_cl {d : D} : Apart T F H σ δ v (.cl d) := fun _ _ _ _ _ _ e => nomatch e
end
section
variable {T : Tb} {X : Cx} {st : Stmt} {rest : List Stmt} {s t u : AS} {e c : Expr} {x : AE} {at_ : AT} {pos : Pos} {i : Nat}
theorem ss_nil : PSs X [] (rdS T aNext) := pss_nil.mono fun D σ H h => by
  obtain ⟨G, F, δ, E, R, h, k⟩ := h
  exact k.nx _ h F H σ (Same.refl _) R
theorem ss_cons (h1 : PS X st (rdS T s)) (h2 : PSs X rest (rdS T t)) : PSs X (st :: rest) (rdS T (aSeq s t)) := (pss_cons h1 h2).mono fun D σ H h => by
  obtain ⟨G, F, δ, E, R, h, k⟩ := h
  exact ⟨G, F, δ, _, R, h, ⟨fun δ' q F' H' σ' s R' => ⟨G, F', δ', E, R', q, k.mono s⟩, k.rt, k.bk, k.ct⟩⟩
theorem ss_cut (h1 : PS X st (rdS T s)) (h2 : PSs X rest (rdS T t)) : PSs X (st :: rest) (rdS T (aCut s t)) := (pss_cons h1 h2).mono fun D σ H h => by
  obtain ⟨G, F, δ, E, R, ⟨Mid, h, hm⟩, k⟩ := h
  exact ⟨G, F, δ, _, R, h, ⟨fun δ' q F' H' σ' s R' => ⟨G, F', δ', E, R', hm δ' q, k.mono s⟩, k.rt, k.bk, k.ct⟩⟩
theorem ss_one (h1 : PS X st (rdS T s)) : PSs X [st] (rdS T s) := pss_one h1
theorem s_frz (i : Nat) (h : PS X st (rdS T s)) : PS X st (rdS T (aFrz i s)) := h.mono fun D σ H h => by
  obtain ⟨G, F, δ, E, R, h, k⟩ := h
  obtain ⟨F', sm, R'⟩ := R.frz i
  exact ⟨G, F', _, E, R', h, k.mono sm⟩
theorem ss_frz (i : Nat) (h : PSs X rest (rdS T s)) : PSs X rest (rdS T (aFrz i s)) := h.mono fun D σ H h => by
  obtain ⟨G, F, δ, E, R, h, k⟩ := h
  obtain ⟨F', sm, R'⟩ := R.frz i
  exact ⟨G, F', _, E, R', h, k.mono sm⟩
theorem s_pass : PS X (.Pass pos) (rdS T aNext) := ps_pass.mono fun D σ H h => by
  obtain ⟨G, F, δ, E, R, h, k⟩ := h
  exact k.nx _ h F H σ (Same.refl _) R
theorem s_break : PS X (.Break pos) (rdS T aBreak) := ps_break.mono fun D σ H h => by
  obtain ⟨G, F, δ, E, R, h, k⟩ := h
  exact k.bk _ h F H σ (Same.refl _) R
theorem s_cont : PS X (.Continue pos) (rdS T aCont) := ps_continue.mono fun D σ H h => by
  obtain ⟨G, F, δ, E, R, h, k⟩ := h
  exact k.ct _ h F H σ (Same.refl _) R
theorem rd_set {D : Ends} {σ : L2.St} {H : Hp} (h : rdS T (aSet i x) D σ H) : tAsg (rdE T x) (gName i) D σ H := by
  obtain ⟨G, F, δ, E, R, h, k⟩ := h
  refine ⟨G, F, δ, _, R, h, fun w hw v F1 H1 g r => ?_⟩
  split at hw
  · rename_i a ha
    exact k.nx _ hw F1 H1 _ g.f (R.store g r ha)
  · exact hw.elim
theorem s_set {y : Str} {pos' : Pos} (hN : X.N.Nodup) (hi : X.N[i]? = some y) (hx : Loc X.env.scope y) (he : PE X e (rdE T x)) (hs : swapsWith e (some (.Name y pos')) pos.line X.env = pure false := by rfl) (hf : X.fn y = true ∨ X.env.scope.names.lookup y = some .local := by first | exact .inl rfl | exact .inr rfl | assumption) :
    PS X (.Assign [.Name y pos'] e pos) (rdS T (aSet i x)) := (ps_set hN hi hx he hs hf).mono fun _ _ _ h => rd_set h
theorem s_expr (he : PE X e (rdE T x)) (hs : swapsWith e none pos.line X.env = pure false := by rfl) : PS X (.Expr e pos) (rdS T (aDrop x)) := (ps_expr he hs).mono fun D σ H h => by
  obtain ⟨G, F, δ, E, R, h, k⟩ := h
  exact ⟨G, F, δ, _, R, h, fun w hw v F1 H1 g r => k.nx _ hw F1 H1 _ g.f (R.go g)⟩
theorem s_if {a b : List Stmt} (ht : PT X c (rdT T at_)) (ha : PSs X a (rdS T s)) (hb : PSs X b (rdS T u)) : PS X (.If c a b pos) (rdS T (aIf at_ s u)) := (ps_if ht ha hb).mono fun D σ H h => by
  obtain ⟨G, F, δ, E, R, h, k⟩ := h
  refine ⟨G, F, δ, _, R, h, fun c hc F1 H1 g => ?_⟩
  cases c with
  | true => exact ⟨G, F1, δ, E, R.go g, hc, k.mono g.f⟩
  | false => exact ⟨G, F1, δ, E, R.go g, hc, k.mono g.f⟩
theorem s_ret (he : PE X e (rdE T x)) : PS X (.Return (some e) pos) (rdS T (aRet x)) := (ps_ret he).mono fun D σ H h => by
  obtain ⟨G, F, δ, E, R, h, k⟩ := h
  refine ⟨G, F, δ, _, R, h, fun w hw v F1 H1 g r => ?_⟩
  have ap := R.apart g r
  split at hw
  · exact k.rt _ δ hw v F1 H1 σ g.f (R.go g) r ap
  · refine k.rt _ δ hw v F1 H1 σ g.f (R.go g) ?_ ap
    obtain ⟨A, o, hA⟩ := r
    exact ⟨A, o, fun a q => Classical.byContradiction fun z => R.th a z (hA a q)⟩
  · exact hw.elim
theorem s_retV (i : Nat) {y : Str} {p2 : Pos} (hN : X.N[i]? = some y := by rfl) (hv : Vis X.env.scope y := by first | exact Or.inl rfl | exact Or.inr (Or.inl rfl) | exact Or.inr (Or.inr rfl)) (hd : (y == ("__debug__" : Str)) = false := by decide)
    (hcd : (y == ("__classdict__" : Str)) = false := by decide) : PS X (.Return (some (.Name y p2)) pos) (rdS T (aRetV i)) := (ps_ret (pe_var hN hv hd hcd)).mono fun D σ H h => by
  obtain ⟨G, F, δ, E, R, h, k⟩ := h
  have q := R.sl i
  unfold aRetV at h
  revert q
  generalize hg : gt δ i = a at h
  intro q
  cases a with
  | non => exact h.elim
  | im d =>
    obtain ⟨v, e, r⟩ := q
    exact ⟨v, gs_some e, k.rt _ δ h v F H σ (Same.refl _) R r apart_cl⟩
  | bw m => exact h.elim
  | ow l m =>
    cases l with
    | true => exact h.elim
    | false =>
      obtain ⟨v, A, e, o, os⟩ := q
      have os : ∀ a ∈ A, G.H0 a = none := os
      refine ⟨v, gs_some e, k.rt _ δ h v F H σ (Same.refl _) R ⟨A, o, os⟩ fun m1 j m2 u B C e1 e2 e3 o1 o2 => ?_⟩
      cases e1
      refine R.dj i j false true m m2 v u B C (fun z => ?_) hg e2 e e3 o1 o2
      subst z
      rw [hg] at e2; cases e2
theorem s_retN : PS X (.Return none pos) (rdS T aRetN) := ps_retN.mono fun D σ H h => by
  obtain ⟨G, F, δ, E, R, h, k⟩ := h
  exact k.rt _ δ h .non F H σ (Same.refl _) R .non apart_cl
end

/-! ### targets -/
abbrev AG := D → List AV → (List AV → Prop) → Prop
abbrev AGs := List D → List AV → (List AV → Prop) → Prop
def agN (i : Nat) : AG := fun d δ Q => Q (δ.set i (.im d))
def agT (n : Nat) (g : AGs) : AG := fun d δ Q => match d with
  | .tup ds => ds.length = n ∧ g ds δ Q
  | _ => False
def agNil : AGs := fun ds δ Q => ds = [] ∧ Q δ
def agCons (g : AG) (gs : AGs) : AGs := fun ds δ Q => match ds with
  | d :: ds => g d δ fun δ' => gs ds δ' Q
  | [] => False
/-- slots outside ks are as they were -/
def Keep (ks : List Nat) (σ σ' : L2.St) : Prop := σ'.length = σ.length ∧ ∀ i, i ∉ ks → σ'[i]? = σ[i]?
def rdG (T : Tb) (ks : List Nat) (a : AG) : TG := fun v σ H Q => ∃ G F δ P d, RepS T G F H σ δ ∧ Rep T F v d ∧ a d δ P ∧ ∀ δ', P δ' → ∀ σ', Keep ks σ σ' → RepS T G F H σ' δ' → Q σ' H
def rdGs (T : Tb) (ks : List Nat) (a : AGs) : TGs := fun vs σ H Q => ∃ G F δ P ds, RepS T G F H σ δ ∧ Reps T F vs ds ∧ a ds δ P ∧ ∀ δ', P δ' → ∀ σ', Keep ks σ σ' → RepS T G F H σ' δ' → Q σ' H
theorem _root_.L2.PG.mono {X : Cx} {e : Expr} {t t' : TG} (h : PG X e t) (k : ∀ v σ H Q, t' v σ H Q → t v σ H Q) : PG X e t' := ⟨fun pins s σ H v u Q I r q => h.run pins s σ H v u Q I r (k v σ H Q q)⟩
theorem _root_.L2.PGs.mono {X : Cx} {e : List Expr} {t t' : TGs} (h : PGs X e t) (k : ∀ v σ H Q, t' v σ H Q → t v σ H Q) : PGs X e t' := ⟨fun pins s σ H v u Q I r q => h.run pins s σ H v u Q I r (k v σ H Q q)⟩
section
variable {T : Tb} {X : Cx} {pos : Pos} {ks ks' : List Nat} {σ σ' σ2 : L2.St}
theorem Keep.refl : Keep ks σ σ := ⟨rfl, fun _ _ => rfl⟩
theorem Keep.trans (a : Keep ks σ σ') (b : Keep ks' σ' σ2) : Keep (ks ++ ks') σ σ2 :=
  ⟨b.1.trans a.1, fun i hi => (b.2 i fun h => hi (List.mem_append_right _ h)).trans (a.2 i fun h => hi (List.mem_append_left _ h))⟩
theorem g_name {i : Nat} {x : Str} (hN : X.N.Nodup) (hi : X.N[i]? = some x) (hx : Loc X.env.scope x) (hf : X.fn x = true ∨ X.env.scope.names.lookup x = some .local := by first | exact .inl rfl | exact .inr rfl | assumption) : PG X (.Name x pos) (rdG T [i] (agN i)) :=
  (pg_name hN hi hx hf).mono fun v σ H Q h => by
    obtain ⟨G, F, δ, P, d, R, r, h, k⟩ := h
    refine k _ h _ ⟨by rw [List.length_set], fun j hj => ?_⟩ (R.put (a := .im d) ⟨v, rfl, r⟩ fun _ _ e => nomatch e)
    rw [List.getElem?_set_ne]
    exact fun e => hj (by simp [e])
theorem g_nil : PGs X [] (rdGs T [] agNil) := pgs_nil.mono fun v σ H Q h => by
  obtain ⟨G, F, δ, P, d, R, r, ⟨e, h⟩, k⟩ := h
  subst e
  cases r
  exact ⟨rfl, k _ h _ Keep.refl R⟩
theorem g_cons {e : Expr} {es : List Expr} {a : AG} {as : AGs} (h1 : PG X e (rdG T ks a)) (h2 : PGs X es (rdGs T ks' as))
    (hs : (assignEach (e :: es) X.env).map (·.2) = assign e X.env :: (assignEach es X.env).map (·.2) := by rfl) : PGs X (e :: es) (rdGs T (ks ++ ks') (agCons a as)) := (pgs_cons h1 h2 hs).mono fun v σ H Q h => by
  obtain ⟨G, F, δ, P, ds, R, r, h, k⟩ := h
  cases r with
  | nil => exact h.elim
  | cons r t =>
    exact ⟨_, _, rfl, G, F, δ, _, _, R, r, h, fun δ' q σ' kp R' => ⟨G, F, δ', P, _, R', t, q, fun δ2 q2 σ2 kp2 R2 => k δ2 q2 σ2 (kp.trans kp2) R2⟩⟩
theorem g_tup {es : List Expr} {k : Nat} {a : AGs} {n : Nat} (hc : X.calm = true) (h : PGs X es (rdGs T ks a))
    (hn : (assignEach es X.env).length = n := by rfl) (hst : (assignEach es X.env).findIdx? (·.1) = none := by rfl) : PG X (.Tuple es k pos) (rdG T ks (agT n a)) := (pg_tup hc h hn hst).mono fun v σ H Q h => by
  obtain ⟨G, F, δ, P, d, R, r, h, k⟩ := h
  unfold agT at h
  split at h
  · rename_i ds
    obtain ⟨q1, q2⟩ := h
    obtain ⟨p, vs, rfl, hp, rr⟩ := rep_tup r
    exact ⟨p, vs, rfl, SqT.of (R.ex _ _ hp), rr.length.trans q1, G, F, δ, P, ds, R, rr, q2, k⟩
  · exact h.elim
/-- (a, b) = e and the like -/
def aAsgG (e : AE) (g : AG) : AS := fun E δ => e δ fun w => match argW w with
  | .cl d => g d δ E.nx
  | _ => False
theorem s_asgG {tg e : Expr} {x : AE} {a : AG} (he : PE X e (rdE T x)) (hg : PG X tg (rdG T ks a)) (hs : swapsWithSole [tg] e pos.line X.env = pure false := by rfl) (hw : swappedStores [tg] e X.env = pure none := by rfl)
    (h1 : (assignEach [tg] X.env).map (·.2) = [assign tg X.env] := by rfl) : PS X (.Assign [tg] e pos) (rdS T (aAsgG x a)) := (ps_asg he hg hs hw h1).mono fun D σ H h => by
  obtain ⟨G, F, δ, E, R, h, k⟩ := h
  refine ⟨G, F, δ, _, R, h, fun w hw v F1 H1 g r => ?_⟩
  obtain ⟨F2, g2, _, _, r2, _⟩ := RepW.arg g r
  split at hw
  · rename_i d hd
    rw [hd] at r2
    exact ⟨G, F2, δ, _, d, R.go g2, r2, hw, fun δ' q σ' _ R' => k.nx _ q F2 H1 σ' g2.f R'⟩
  · exact hw.elim
end

/-! ### what is walked -/
abbrev AI := List AV → (List D → Prop) → Prop
/-- J walks over the data ds -/
def IsWalk (T : Tb) (G : Gx) (F : Hp) (J : It) (ds : List D) : Prop := ∃ Gd Y, Walk J ds.length Gd Y ∧ (∀ F' H' σ' δ', Same F F' → RepS T G F' H' σ' δ' → Gd H') ∧
  ∀ i H x H', i < ds.length → Gd H → Y i H x H' → H' = H ∧ ∃ d, ds[i]? = some d ∧ ∀ F', Same F F' → Same F' H → Rep T F' x d
def rdI (T : Tb) (a : AI) : TI := fun σ H R => ∃ G F δ P, RepS T G F H σ δ ∧ a δ P ∧ ∀ ds, P ds → ∀ J F1 H1, Go F H F1 H1 → IsWalk T G F1 J ds → R J H1
theorem _root_.L2.PI.mono {X : Cx} {tg it : Expr} {t t' : TI} (h : PI X tg it t) (k : ∀ σ H Q, t' σ H Q → t σ H Q) : PI X tg it t' := ⟨fun pins s σ H R I q => h.run pins s σ H R I (k σ H R q)⟩
/-- a list that nobody changes meanwhile -/
def iLst (a : AE) : AI := fun δ Q => a δ fun w => match argW w with
  | .cl (.lst ds) => Q ds
  | .cl (.scr ns) => Q (ns.map .int)
  | .bw (.fl ds) => Q ds
  | _ => False
def iTup (a : AE) : AI := fun δ Q => a δ fun w => match argW w with
  | .cl (.tup ds) => Q ds
  | _ => False
/-- lo, lo + 1, .. -/
def ups (lo : Int) (n : Nat) : List D := (List.range n).map fun i => .int (lo + (i : Nat))
def iR1 (a : AA) : AI := fun δ Q => a δ fun ws => match ws with
  | [.cl (.int j)] => (-1000000000000 ≤ j ∧ j ≤ 1000000000000) ∧ Q (ups 0 j.toNat)
  | _ => False
def iR2 (a : AA) : AI := fun δ Q => a δ fun ws => match ws with
  | [.cl (.int i), .cl (.int j)] => (-1000000000000 ≤ i ∧ i ≤ 1000000000000 ∧ -1000000000000 ≤ j ∧ j ≤ 1000000000000) ∧ Q (ups i (j - i).toNat)
  | _ => False
section
variable {T : Tb} {X : Cx} {tg e : Expr} {es : List Expr} {x : AE} {xs : AA} {G : Gx} {F : Hp} {pos p : Pos}
theorem walk_fl {a : Addr} {vs : List V} {ds : List D} (r : Reps T F vs ds) (hs : ∀ F' H' σ' δ', Same F F' → RepS T G F' H' σ' δ' → SqL T.K H' a vs) : IsWalk T G F (Itl T.K a) ds := by
  have w := walk_list (K := T.K) (a := a) (xs := vs)
  rw [r.length] at w
  refine ⟨_, _, w, hs, fun i H x H' hi g y => ⟨y.1, ?_⟩⟩
  obtain ⟨d, hd, rd⟩ := r.get y.2
  exact ⟨d, hd, fun F' s _ => rd.mono s⟩
theorem walk_tl {a : Addr} {vs : List V} {ds : List D} (r : Reps T F vs ds) (hs : ∀ F' H' σ' δ', Same F F' → RepS T G F' H' σ' δ' → SqT T.K H' a vs) : IsWalk T G F (Itt T.K a) ds := by
  have w := walk_tup (K := T.K) (a := a) (xs := vs)
  rw [r.length] at w
  refine ⟨_, _, w, hs, fun i H x H' hi g y => ⟨y.1, ?_⟩⟩
  obtain ⟨d, hd, rd⟩ := r.get y.2
  exact ⟨d, hd, fun F' s _ => rd.mono s⟩
theorem walk_up {lo : Int} {n : Nat} : IsWalk T G F (Itr lo n) (ups lo n) := by
  have e : (ups lo n).length = n := by unfold ups; simp
  refine ⟨fun _ => True, YFn fun i => .int (lo + i), by rw [e]; exact walk_range, fun _ _ _ _ _ _ => trivial, fun i H x H' hi g y => ⟨y.1, ?_⟩⟩
  rw [e] at hi
  refine ⟨.int (lo + (i : Nat)), by unfold ups; simp [hi], fun F' _ _ => ?_⟩
  rw [y.2]
  exact .int _
theorem i_lst (hTK : T.K = X.K) (he : PE X e (rdE T x)) : PI X tg e (rdI T (iLst x)) := (pi_list he).mono fun σ H Q h => by
  obtain ⟨G, F, δ, P, R, h, k⟩ := h
  refine ⟨G, F, δ, _, R, h, fun w hw v F1 H1 g r => ?_⟩
  obtain ⟨F2, g2, _, _, r2, _⟩ := RepW.arg g r
  rw [← hTK]
  split at hw
  · rename_i ds hd
    rw [hd] at r2
    obtain ⟨a, vs, rfl, ha, rr⟩ := rep_lst r2
    exact ⟨a, rfl, ⟨vs, SqL.of (g2.ex _ _ ha)⟩, k _ hw _ F2 H1 g2 (walk_fl rr fun F' H' σ' δ' s R' => SqL.of (R'.ex _ _ (s _ _ ha)))⟩
  · rename_i ns hd
    rw [hd] at r2
    cases r2 with
    | scr q => exact ⟨_, rfl, ⟨_, Same.seq g2.ex q⟩, k _ hw _ F2 H1 g2 (walk_fl (reps_of_ints _) fun F' H' σ' δ' s R' => Same.seq R'.ex (Same.seq s q))⟩
  · rename_i ds hd
    rw [hd] at r2
    obtain ⟨A, o, hA⟩ := r2
    obtain ⟨a, vs, rfl, rfl, q, _, rr⟩ := own_fl o
    obtain ⟨hn, h0⟩ := hA a List.mem_cons_self
    refine ⟨a, rfl, ⟨vs, SqL.of q⟩, k _ hw _ F2 H1 g2 (walk_fl rr fun F' H' σ' δ' s R' => SqL.of ?_)⟩
    cases e0 : G.H0 a with
    | none => exact absurd e0 h0
    | some ob =>
      have z1 := (R.go g2).fr a ob e0 hn
      have z2 := R'.fr a ob e0 hn
      rw [z2, ← z1]; exact q
  · exact hw.elim
theorem i_tup (hTK : T.K = X.K) (he : PE X e (rdE T x)) : PI X tg e (rdI T (iTup x)) := (pi_tup he).mono fun σ H Q h => by
  obtain ⟨G, F, δ, P, R, h, k⟩ := h
  refine ⟨G, F, δ, _, R, h, fun w hw v F1 H1 g r => ?_⟩
  obtain ⟨F2, g2, _, _, r2, _⟩ := RepW.arg g r
  rw [← hTK]
  split at hw
  · rename_i ds hd
    rw [hd] at r2
    obtain ⟨a, vs, rfl, ha, rr⟩ := rep_tup r2
    exact ⟨a, rfl, ⟨vs, SqT.of (g2.ex _ _ ha)⟩, k _ hw _ F2 H1 g2 (walk_tl rr fun F' H' σ' δ' s R' => SqT.of (R'.ex _ _ (s _ _ ha)))⟩
  · exact hw.elim
theorem i_r1 (hg : Gl X "range") (hm : X.mg "range" = none) (ha : PA X [e] (rdA T xs)) (hs : starEach [e] X.env = [(false, eval e X.env)] := by rfl) : PI X tg (.Call (.Name "range" p) [e] [] pos) (rdI T (iR1 xs)) := (pi_range1 hg hm ha hs).mono fun σ H Q h => by
  obtain ⟨G, F, δ, P, R, h, k⟩ := h
  refine ⟨G, F, δ, _, R, h, fun ws hw vs F1 H1 g r => ?_⟩
  split at hw
  · rename_i j
    cases r with
    | cons r t =>
      cases t
      exact ⟨j, by rw [rep_int r], by omega, by omega, k _ hw.2 _ F1 H1 g walk_up⟩
  · exact hw.elim
theorem i_r2 {e2 : Expr} (hg : Gl X "range") (hm : X.mg "range" = none) (ha : PA X [e, e2] (rdA T xs)) (hs : starEach [e, e2] X.env = [(false, eval e X.env), (false, eval e2 X.env)] := by rfl) (hs2 : starEach [e2] X.env = [(false, eval e2 X.env)] := by rfl) :
    PI X tg (.Call (.Name "range" p) [e, e2] [] pos) (rdI T (iR2 xs)) := (pi_range2 hg hm ha hs hs2).mono fun σ H Q h => by
  obtain ⟨G, F, δ, P, R, h, k⟩ := h
  refine ⟨G, F, δ, _, R, h, fun ws hw vs F1 H1 g r => ?_⟩
  split at hw
  · rename_i i j
    cases r with
    | cons r t =>
      cases t with
      | cons r2 t =>
        cases t
        exact ⟨i, j, by rw [rep_int r, rep_int r2], ⟨by omega, by omega, by omega, by omega⟩, k _ hw.2 _ F1 H1 g walk_up⟩
  · exact hw.elim
end

/-! ### loops -/
def aFor (ai : AI) (g : AG) (body : AS) : AS := fun E δ => ai δ fun ds => ∃ I : Nat → List AV → Prop, I 0 δ ∧
  (∀ i d δ', ds[i]? = some d → I i δ' → g d δ' fun δ2 => body { E with nx := I (i + 1), ct := I (i + 1), bk := E.nx } δ2) ∧ ∀ δ', I ds.length δ' → E.nx δ'
def aWhile (t : AT) (body : AS) : AS := fun E δ => ∃ I : Nat → List AV → Prop, (∃ m, I m δ) ∧ ∀ m δ', I m δ' → t δ' fun b => if b = true then body { E with nx := fun δ2 => ∃ m', m' < m ∧ I m' δ2, ct := fun δ2 => ∃ m', m' < m ∧ I m' δ2, bk := E.nx } δ' else E.nx δ'
section
variable {T : Tb} {X : Cx} {tg it c : Expr} {body : List Stmt} {ai : AI} {ag : AG} {s : AS} {at_ : AT} {ks : List Nat} {pos : Pos}
theorem s_for (hp : PassesOwn (model X.prog X.w) X.A X.env X.xe) (hc : X.calm = true) (hi : PI X tg it (rdI T ai)) (hg : PG X tg (rdG T ks ag)) (hb : PSs X body (rdS T s))
    (hs : ∀ x, foldedSetIterable it X.env x = pure x := by intro _; rfl) : PS X (.For tg it body [] pos) (rdS T (aFor ai ag s)) := (ps_for hp hc hi hg hb hs).mono fun D σ H h => by
  obtain ⟨G, F, δ, E, R, h, k⟩ := h
  refine ⟨G, F, δ, _, R, h, fun ds hd J F1 H1 g W => ?_⟩
  obtain ⟨I, h0, hs, he⟩ := hd
  obtain ⟨Gd, Y, w, stb, yy⟩ := W
  refine for_it w (fun i σ' H' => ∃ F' δ', Same F1 F' ∧ RepS T G F' H' σ' δ' ∧ I i δ') ⟨F1, δ, Same.refl _, R.go g, h0⟩ (fun i σ' H' _ ⟨F', δ', s, R', _⟩ => stb F' H' σ' δ' s R') ?_ ?_
  · rintro i x σ' H' H2 hi ⟨F', δ', sm, R', hI⟩ hy
    obtain ⟨rfl, d, hd, rd⟩ := yy i H' x H2 hi (stb F' H' σ' δ' sm R') hy
    refine ⟨G, F', δ', _, d, R', rd F' sm R'.ex, hs i d δ' hd hI, fun δ2 q σ2 _ R2 => ?_⟩
    refine ⟨G, F', δ2, _, R2, q, ?_⟩
    exact ⟨fun δ3 q3 F3 H3 σ3 s3 R3 => ⟨F3, δ3, sm.trans s3, R3, q3⟩, fun w δ3 q3 v F3 H3 σ3 s3 => k.rt w δ3 q3 v F3 H3 σ3 (g.f.trans (sm.trans s3)),
      fun δ3 q3 F3 H3 σ3 s3 => k.nx δ3 q3 F3 H3 σ3 (g.f.trans (sm.trans s3)), fun δ3 q3 F3 H3 σ3 s3 R3 => ⟨F3, δ3, sm.trans s3, R3, q3⟩⟩
  · rintro σ' H' ⟨F', δ', sm, R', hI⟩
    exact k.nx _ (he δ' hI) F' H' σ' (g.f.trans sm) R'
theorem s_while (hp : PassesOwn (model X.prog X.w) X.A X.env X.xe) (hc : PT X c (rdT T at_)) (hb : PSs X body (rdS T s)) : PS X (.While c body [] pos) (rdS T (aWhile at_ s)) := (ps_while hp hc hb).mono fun D σ H h => by
  obtain ⟨G, F, δ, E, R, ⟨I, ⟨m, h0⟩, hs⟩, k⟩ := h
  refine ⟨fun m σ' H' => ∃ F' δ', Same F F' ∧ RepS T G F' H' σ' δ' ∧ I m δ', ⟨m, F, δ, Same.refl _, R, h0⟩, fun m σ' H' ⟨F', δ', sm, R', hI⟩ => ?_⟩
  refine ⟨G, F', δ', _, R', hs m δ' hI, fun b hb F2 H2 g => ?_⟩
  cases b with
  | true =>
    refine ⟨fun σ3 H3 => ∃ m', m' < m ∧ ∃ F' δ', Same F F' ∧ RepS T G F' H3 σ3 δ' ∧ I m' δ', fun σ3 H3 ⟨m', hm, q⟩ => ⟨m', hm, q⟩, G, F2, δ', _, R'.go g, hb, ?_⟩
    exact ⟨fun δ3 ⟨m', hm, q3⟩ F3 H3 σ3 s3 R3 => ⟨m', hm, F3, δ3, sm.trans (g.f.trans s3), R3, q3⟩, fun w δ3 q3 v F3 H3 σ3 s3 => k.rt w δ3 q3 v F3 H3 σ3 (sm.trans (g.f.trans s3)),
      fun δ3 q3 F3 H3 σ3 s3 => k.nx δ3 q3 F3 H3 σ3 (sm.trans (g.f.trans s3)), fun δ3 ⟨m', hm, q3⟩ F3 H3 σ3 s3 R3 => ⟨m', hm, F3, δ3, sm.trans (g.f.trans s3), R3, q3⟩⟩
  | false => exact k.nx _ hb F2 H2 _ (sm.trans g.f) (R'.go g)
end
end Vl
namespace Vl
open PySem PySem.Spec PyProof.Rows L2

/-! ### comprehensions -/
def wipeA (δ : List AV) : List Nat → List AV
  | [] => δ
  | v :: vs => (wipeA δ vs).set v .non
def lcGo (g : AG) (t : AT) (e : AE) (δ : List AV) : List D → List D → (W → Prop) → Prop
  | [], acc, Q => Q (.fr (.fl acc))
  | d :: ds, acc, Q => g d δ fun δ2 => t δ2 fun b => if b = true then e δ2 fun w => match argW w with
      | .cl y => acc.length < 1000000 ∧ lcGo g t e δ ds (acc ++ [y]) Q
      | _ => False
    else lcGo g t e δ ds acc Q
def aLc (ai : AI) (g : AG) (t : AT) (e : AE) (vs : List Nat) : AE := fun δ Q => ai δ fun ds => lcGo g t e (wipeA δ vs) ds [] Q
def aYes : AT := fun _ Q => Q true
section
variable {T : Tb} {X : Cx} {G : Gx} {F F' F1 H H' H1 : Hp} {σ σ' : L2.St} {δ : List AV} {p : Addr} {vs ks : List Nat}
theorem RepS.wipe (R : RepS T G F H σ δ) : ∀ vs : List Nat, RepS T G F H (wipe σ vs) (wipeA δ vs)
  | [] => R
  | v :: vs => by
    have R' := RepS.wipe R vs
    show RepS T G F H ((L2.wipe σ vs).set v none) ((wipeA δ vs).set v .non)
    refine ⟨R'.ex, R'.fr, R'.th, R'.lh, R'.f0, R'.fn, by rw [List.length_set, List.length_set]; exact R'.len, fun j => ?_, fun j k l l' m m' u w A B ne e1 e2 e3 e4 => ?_⟩
    · by_cases hi : v < (L2.wipe σ vs).length
      · have hi' : v < (wipeA δ vs).length := R'.len ▸ hi
        rw [gs_set hi, gt_set hi']
        by_cases e : v = j
        · rw [if_pos e, if_pos e]; trivial
        · rw [if_neg e, if_neg e]; exact R'.sl j
      · have hi' : ¬ v < (wipeA δ vs).length := R'.len ▸ hi
        rw [gs_out hi, gt_out hi']; exact R'.sl j
    · by_cases hi : v < (L2.wipe σ vs).length
      · have hi' : v < (wipeA δ vs).length := R'.len ▸ hi
        rw [gs_set hi] at e3 e4
        rw [gt_set hi'] at e1 e2
        by_cases ej : v = j
        · rw [if_pos ej] at e1; cases e1
        · by_cases ek : v = k
          · rw [if_pos ek] at e2; cases e2
          · rw [if_neg ej] at e1 e3; rw [if_neg ek] at e2 e4
            exact R'.dj j k l l' m m' u w A B ne e1 e2 e3 e4
      · have hi' : ¬ v < (wipeA δ vs).length := R'.len ▸ hi
        rw [gs_out hi] at e3 e4
        rw [gt_out hi'] at e1 e2
        exact R'.dj j k l l' m m' u w A B ne e1 e2 e3 e4
theorem Go.side {o : HO} (g : Go F H F' H') (hp : H p = none) (hf : F' p = none) : Go F H F' (upd H' p o) := by
  refine ⟨fun b x e => ?_, g.f, fun b x e => ?_, g.n⟩
  · rw [upd_ne (ne_of_none e hp)]; exact g.h _ _ e
  · rw [upd_ne (ne_of_none e hf)]; exact g.ex _ _ e
theorem wipe_keep (hk : ∀ i ∈ ks, i ∈ vs) (k : Keep ks (wipe σ vs) σ') : wipe σ' vs = wipe σ vs := by
  apply List.ext_getElem?
  intro i
  by_cases hi : i ∈ vs
  · have out : ∀ (τ : L2.St), τ.length = σ.length → (wipe τ vs)[i]? = if i < σ.length then some none else none := fun τ hl => by
      cases e : (wipe τ vs)[i]? with
      | none =>
        have := List.getElem?_eq_none_iff.mp e
        rw [wipe_length, hl] at this
        rw [if_neg (by omega)]
      | some x =>
        have := (List.getElem?_eq_some_iff.mp e).1
        rw [wipe_length, hl] at this
        rw [if_pos this]
        cases x with
        | none => rfl
        | some x => exact absurd hi (wipe_some e).2
    rw [out σ' (by rw [k.1, wipe_length]), out σ rfl]
  · rw [wipe_out hi, k.2 i fun h => hi (hk i h)]
def rdTs (T : Tb) (a : AT) : TT := rdT T a
theorem ts_nil {Y : Cx} : PTs Y [] (rdT T aYes) := ⟨fun pins s σ H Q I h => by
  obtain ⟨G, F, δ, P, R, h, k⟩ := h
  exact (pts_nil (X := Y)).run pins s σ H Q I (k _ h F H (Go.refl R.ex))⟩
theorem ts_one {Y : Cx} {c : Expr} {t : AT} (h : PT Y c (rdT T t)) : PTs Y [c] (rdT T t) := pts_one h
theorem rd_lc {ai : AI} {ag : AG} {t : AT} {e : AE} (hk : ∀ i ∈ ks, i ∈ vs) {Q : VK} (h : rdE T (aLc ai ag t e vs) σ H Q) : tLc (rdI T ai) (rdG T ks ag) (rdT T t) (rdE T e) vs σ H Q := by
  obtain ⟨G, F, δ, P, R, h, k⟩ := h
  refine ⟨G, F, δ, _, R, h, fun ds hd J F1 H1 g W => fun DD hD => ?_⟩
  obtain ⟨Gd, Y, w, stb, yy⟩ := W
  have R1 := R.go g
  have hD0 : H DD = none := g.h.free hD
  have h00 : G.H0 DD = none := Classical.byContradiction fun q => R.th DD q hD0
  have hL : DD ∉ G.L := fun q => R.lh DD q h00
  have Rw := R1.wipe vs
  have next : ∀ {F' H' : Hp} {acc : List D} {accV : List V} {y : D} {v : V} {i : Nat}, Go F1 H1 F' H' → F' DD = none → H' DD = some (.lst accV) → Reps T F' accV acc → Rep T F' v y → lcGo ag t e (wipeA δ vs) (ds.drop (i + 1)) (acc ++ [y]) P →
      ∃ F2 acc accV2, Go F1 H1 F2 (upd H' DD (.lst (accV ++ [v]))) ∧ F2 DD = none ∧ (upd H' DD (.lst (accV ++ [v]))) DD = some (.lst accV2) ∧ Reps T F2 accV2 acc ∧ lcGo ag t e (wipeA δ vs) (ds.drop (i + 1)) acc P :=
    fun {F' H' acc accV y v i} g1 f1 h1 r1 ry q => ⟨F', acc ++ [y], accV ++ [v], g1.side hD f1, f1, upd_same, r1.snoc ry, q⟩
  have hRR : ∀ {F' H' : Hp}, Go F1 H1 F' H' → F' DD = none → RepS T G F' H' (wipe σ vs) (wipeA δ vs) := fun g1 _ => Rw.go g1
  refine lc_it w (fun i H' => ∃ F' acc accV, Go F1 H1 F' H' ∧ F' DD = none ∧ H' DD = some (.lst accV) ∧ Reps T F' accV acc ∧ lcGo ag t e (wipeA δ vs) (ds.drop i) acc P) ⟨F1, [], [], (Go.refl g.ex).lay hD, g.ex.free hD, upd_same, .nil, hd⟩
    (fun i H' _ ⟨F', _, _, g1, _⟩ => stb F' H' _ _ g1.f (Rw.go g1)) ?_ ?_
  · rintro i x H' H2 hi ⟨F', acc, accV, g1, f1, h1, r1, hq⟩ hy
    have R' := Rw.go g1
    obtain ⟨rfl, d, hd, rd⟩ := yy i H' x H2 hi (stb F' H' _ _ g1.f R') hy
    have e1 : ds.drop i = d :: ds.drop (i + 1) := by
      obtain ⟨hl, he⟩ := List.getElem?_eq_some_iff.mp hd
      rw [List.drop_eq_getElem_cons hl, he]
    rw [e1] at hq
    unfold lcGo at hq
    refine ⟨G, F', _, _, d, R', rd F' g1.f g1.ex, hq, fun δ2 q σ2 kp R2 => ⟨wipe_keep hk kp, ?_⟩⟩
    refine ⟨G, F', δ2, _, R2, q, fun b hb F3 H3 g3 => ?_⟩
    have f3 : F3 DD = none := (g3.n DD (by rw [h1]; simp) (nt_of h1)).trans f1
    have h3 : H3 DD = some (.lst accV) := g3.h _ _ h1
    cases b with
    | true =>
      rw [if_pos rfl] at hb
      refine iteT ?_
      refine ⟨G, F3, δ2, _, R2.go g3, hb, fun w hw v F4 H4 g4 r4 => ?_⟩
      obtain ⟨F5, g5, _, s5, r5, n5⟩ := RepW.arg g4 r4
      split at hw
      · rename_i y hy
        rw [hy] at r5
        have h5 : H4 DD = some (.lst accV) := g4.h _ _ h3
        have f5 : F5 DD = none := (g5.n DD (by rw [h3]; simp) (nt_of h3)).trans f3
        exact ⟨accV, h5, by rw [r1.length]; exact dSz_lt hw.1, next (g1.trans (g3.trans g5)) f5 h5 (r1.mono (g3.f.trans g5.f)) r5 hw.2⟩
      · exact hw.elim
    | false =>
      rw [if_neg Bool.false_ne_true] at hb
      refine iteF ?_
      exact ⟨F3, acc, accV, g1.trans g3, f3, h3, r1.mono g3.f, hb⟩
  · rintro H' ⟨F', acc, accV, g1, f1, h1, r1, hq⟩
    rw [List.drop_length] at hq
    unfold lcGo at hq
    exact k _ hq _ F' H' (g.trans g1) ⟨[DD], .fl h1 f1 r1, fun a q => by rw [List.mem_singleton.mp q]; exact hD0⟩
theorem e_lc {elt tg iter : Expr} {ifs : List Expr} {scope : Scope} {own : List (Str × Nat)} {pos : Pos} {ai : AI} {ag : AG} {t : AT} {e : AE} (hc : X.calm = true) (hN : X.N.Nodup) (hi : PI X tg iter (rdI T ai)) (ok : BlkOk X.N X.env.scope scope own) (hk : ∀ i ∈ ks, i ∈ own.map (·.2))
    (hg : ∀ (s : Shared) (H : Hp) (C : Addr) (cl : List (Str × Addr)) (fp : List Addr), PG (X.blk s H scope (compEnvC scope cl C X.env) fp) tg (rdG T ks ag)) (ht : ∀ (s : Shared) (H : Hp) (C : Addr) (cl : List (Str × Addr)) (fp : List Addr), PTs (X.blk s H scope (compEnvC scope cl C X.env) fp) ifs (rdT T t))
    (he : ∀ (s : Shared) (H : Hp) (C : Addr) (cl : List (Str × Addr)) (fp : List Addr), PE (X.blk s H scope (compEnvC scope cl C X.env) fp) elt (rdE T e)) (hs : ∀ x, foldedSetIterable iter X.env x = pure x := by intro _; rfl) :
    PE X (.ListComp elt [⟨tg, iter, ifs, 0⟩] scope pos) (rdE T (aLc ai ag t e (own.map (·.2)))) := (pe_lc hc hN hi ok hg ht he hs).mono fun _ _ _ h => rd_lc hk h
theorem s_setLc {i : Nat} {y : Str} {py : Pos} {elt tg iter : Expr} {ifs : List Expr} {scope : Scope} {own : List (Str × Nat)} {pos spos : Pos} {ai : AI} {ag : AG} {t : AT} {e : AE} (hc : X.calm = true) (hN : X.N.Nodup) (hy : X.N[i]? = some y) (hyl : X.env.scope.names.lookup y = some .local)
    (hsw : swapsWith (.ListComp elt [⟨tg, iter, ifs, 0⟩] scope pos) (some (.Name y py)) spos.line X.env = pure true) (hi : PI X tg iter (rdI T ai)) (ok : BlkOk X.N X.env.scope scope own) (hk : ∀ i ∈ ks, i ∈ own.map (·.2))
    (hg : ∀ (s : Shared) (H : Hp) (C : Addr) (cl : List (Str × Addr)) (fp : List Addr), PG (X.blk s H scope (compEnvC scope cl C X.env) fp) tg (rdG T ks ag)) (ht : ∀ (s : Shared) (H : Hp) (C : Addr) (cl : List (Str × Addr)) (fp : List Addr), PTs (X.blk s H scope (compEnvC scope cl C X.env) fp) ifs (rdT T t))
    (he : ∀ (s : Shared) (H : Hp) (C : Addr) (cl : List (Str × Addr)) (fp : List Addr), PE (X.blk s H scope (compEnvC scope cl C X.env) fp) elt (rdE T e)) (hs : ∀ x, foldedSetIterable iter X.env x = pure x := by intro _; rfl) :
    PS X (.Assign [.Name y py] (.ListComp elt [⟨tg, iter, ifs, 0⟩] scope pos) spos) (rdS T (aSet i (aLc ai ag t e (own.map (·.2))))) := (ps_setLc hc hN hy hyl hsw hi ok hg ht he hs).mono fun D σ H h => by
  obtain ⟨G, F, δ, E, R, h, k⟩ := h
  refine rd_lc hk ⟨G, F, δ, _, R, h, fun w hw v F1 H1 g r => ?_⟩
  split at hw
  · rename_i a ha
    exact k.nx _ hw F1 H1 _ g.f (R.store g r ha)
  · exact hw.elim
end

/-! ### slices -/
def cutD (ds : List D) (lo hi : Option Int) : List D := (ds.drop (HT.sIx ds.length 0 lo)).take (HT.sIx ds.length ds.length hi - HT.sIx ds.length 0 lo)
abbrev AO := List AV → (Option Int → Prop) → Prop
def aoN : AO := fun _ Q => Q none
def aoS (e : AE) : AO := fun δ Q => e δ fun w => match w with
  | .cl (.int i) => Q (some i)
  | _ => False
def aSl (e : AE) (lo hi : AO) : AE := fun δ Q => e δ fun w => lo δ fun l => hi δ fun h => match lstC w with
  | some ds => Q (.fr (.fl (cutD ds l h)))
  | none => False
def rdO (T : Tb) (a : AO) : TO := fun σ H Q => ∃ G F δ P, RepS T G F H σ δ ∧ a δ P ∧ ∀ o, P o → ∀ F' H', Go F H F' H' → Q o H'
theorem _root_.L2.PO.mono {X : Cx} {e : Option Expr} {t t' : TO} (h : PO X e t) (k : ∀ σ H Q, t' σ H Q → t σ H Q) : PO X e t' := by
  constructor
  intro pins s σ H Q I q
  exact h.run pins s σ H Q I (k σ H Q q)
section
variable {T : Tb} {X : Cx} {e : Expr} {x : AE} {pos p2 : Pos}
theorem o_none : PO X none (rdO T aoN) := po_none.mono fun σ H Q h => by
  obtain ⟨G, F, δ, P, R, h, k⟩ := h
  exact k _ h F H (Go.refl R.ex)
theorem o_some (h : PE X e (rdE T x)) : PO X (some e) (rdO T (aoS x)) := (po_some h).mono fun σ H Q h => by
  obtain ⟨G, F, δ, P, R, h, k⟩ := h
  refine ⟨G, F, δ, _, R, h, fun w hw v F1 H1 g r => ?_⟩
  split at hw
  · exact ⟨_, rep_int r, k _ hw _ _ g⟩
  · exact hw.elim
theorem e_sl {lo hi : Option Expr} {l h : AO} (hTK : T.K = X.K) (he : PE X e (rdE T x)) (hl : PO X lo (rdO T l)) (hh : PO X hi (rdO T h)) : PE X (.Subscript e (.Slice lo hi none p2) pos) (rdE T (aSl x l h)) := (pe_slice sl_list he hl hh).mono fun σ H Q h => by
  obtain ⟨G, F, δ, P, R, h, k⟩ := h
  refine ⟨G, F, δ, _, R, h, fun w hw v F1 H1 g r => ?_⟩
  refine ⟨G, F1, δ, _, R.go g, hw, fun lo hlo F2 H2 g2 => ?_⟩
  refine ⟨G, F2, δ, _, (R.go g).go g2, hlo, fun hi hhi F3 H3 g3 => ?_⟩
  split at hhi
  · rename_i ds hd
    have g13 := g2.trans g3
    obtain ⟨p, vs, rfl, hp, rr⟩ := (r.go g13).lst g13.ex hd
    refine ⟨p, vs, rfl, hTK ▸ hp, fun q hq => ?_⟩
    refine new_list (ds := cutD ds lo hi) (g.trans g13) ?_ hhi k hq
    unfold cutV cutD
    rw [rr.length]
    exact (rr.drop _).take _
  · exact hhi.elim
end

/-! ### a chain of two comparisons of ints -/
def aChain (p p' : Int → Int → Bool) (a b c : AE) : AE := fun δ Q => a δ fun x => match x with
  | .cl (.int i) => b δ fun y => match y with
    | .cl (.int j) => if p i j = true then c δ fun z => match z with
        | .cl (.int k) => Q (.cl (.bl (p' j k)))
        | _ => False
      else Q (.cl (.bl false))
    | _ => False
  | _ => False
section
variable {T : Tb} {X : Cx} {a b c : Expr} {x y z : AE} {pos : Pos} {p p' : Int → Int → Bool}
theorem rd_chain {σ : L2.St} {H : Hp} {Q : VK} (h : rdE T (aChain p p' x y z) σ H Q) : tChain (rI0 fun i j => .bl (p i j)) (rI0 fun i j => .bl (p' i j)) (rdE T x) (rdE T y) (rdE T z) σ H Q := by
  obtain ⟨G, F, δ, P, R, h, k⟩ := h
  refine ⟨G, F, δ, _, R, h, fun u hu v F1 H1 g r1 => ?_⟩
  split at hu
  · rename_i i
    refine ⟨G, F1, δ, _, R.go g, hu, fun u2 hu2 v2 F2 H2 g2 r2 => ?_⟩
    split at hu2
    · rename_i j
      refine ⟨i, j, rep_int r1, rep_int r2, p i j, rfl, ?_⟩
      cases hp : p i j with
      | true =>
        rw [hp, if_pos rfl] at hu2
        refine iteT ⟨G, F2, δ, _, (R.go g).go g2, hu2, fun u3 hu3 v3 F3 H3 g3 r3 => ?_⟩
        split at hu3
        · rename_i l
          exact ⟨j, l, rep_int r2, rep_int r3, k _ hu3 _ F3 H3 (g.trans (g2.trans g3)) (.bl _)⟩
        · exact hu3.elim
      | false =>
        rw [hp, if_neg Bool.false_ne_true] at hu2
        exact iteF (k _ hu2 _ F2 H2 (g.trans g2) (.bl _))
    · exact hu2.elim
  · exact hu.elim
theorem e_chain {op op' : CmpOp} (ho : OpR X (compareOp op) (rI0 fun i j => .bl (p i j))) (ho' : OpR X (compareOp op') (rI0 fun i j => .bl (p' i j))) (ha : PE X a (rdE T x)) (hb : PE X b (rdE T y)) (hc : PE X c (rdE T z))
    (hm : lastMarks [op, op'] [b, c] = false := by rfl) : PE X (.Compare a [op, op'] [b, c] pos) (rdE T (aChain p p' x y z)) := (pe_chain ho ho' ha hb hc hm).mono fun σ H Q h => rd_chain h
theorem t_chain {op op' : CmpOp} (ho : OpR X (compareOp op) (rI0 fun i j => .bl (p i j))) (ho' : OpR X (compareOp op') (rI0 fun i j => .bl (p' i j))) (ha : PE X a (rdE T x)) (hb : PE X b (rdE T y)) (hc : PE X c (rdE T z))
    (hm : lastMarks [op, op'] [b, c] = false := by rfl) : PT X (.Compare a [op, op'] [b, c] pos) (rdT T (aB (aChain p p' x y z))) := (pt_chain ho ho' ha hb hc hm).mono fun σ H Q h => by
  obtain ⟨G, F, δ, P, R, h, k⟩ := h
  refine rd_chain ⟨G, F, δ, _, R, h, fun w hw v F1 H1 g r => ?_⟩
  split at hw
  · exact ⟨_, rep_bl r, k _ hw _ _ g⟩
  · exact hw.elim
end

/-! ### own lists and dicts are changed -/
def tyM : M → String
  | .fl _ => "list"
  | .tl _ => "list"
  | .fd _ _ _ => "dict"
  | .td _ _ _ => "dict"
  | .cl _ => ""
  | .ti _ _ => ""
  | .tp _ => ""
  | .nd _ => ""
/-- what stands at A has changed, new things may have come; the clean part F is as it was -/
structure Chg (F H : Hp) (A : List Addr) (H' : Hp) : Prop where
  ex : Same F H'
  fr : ∀ a, a ∉ A → H a ≠ none → H' a = H a
  th : ∀ a, H a ≠ none → H' a ≠ none
/-- a method of an own object: what it becomes, what is handed back -/
abbrev FM := M → List W → (M → D → Prop) → Prop
def MutV (T : Tb) (r : V → List V → Hp → VK → Prop) (f : FM) : Prop := ∀ (G : Gx) (F H : Hp) (v : V) (m : M) (A : List Addr) (xs : List V) (ws : List W) (P : M → D → Prop) (Q : VK), Same F H → Own T F H v m A → RepAs T G F H xs ws → f m ws P →
  (∀ m' d, P m' d → ∀ z H' A', Chg F H A H' → Own T F H' v m' A' → (∀ a ∈ A', a ∈ A) → Rep T F z d → Q z H') → r v xs H Q
/-- x.m(..) as a statement of its own -/
def aMut (ty : String) (i : Nat) (f : FM) (es : AA) : AS := fun E δ => match gt δ i with
  | .ow l m => tyM m = ty ∧ es δ fun ws => f m ws fun m' _ => E.nx (δ.set i (.ow l m'))
  | _ => False
/-- y = x.m(..) -/
def aMutS (ty : String) (j i : Nat) (f : FM) (es : AA) : AS := fun E δ => match gt δ i with
  | .ow l m => tyM m = ty ∧ es δ fun ws => f m ws fun m' d => E.nx ((δ.set i (.ow l m')).set j (.im d))
  | _ => False
def clW : W → Option D := fun w => match argW w with
  | .cl d => some d
  | _ => none
/-- xs[k] = e -/
def aSetIx (i : Nat) (k e : AE) : AS := fun E δ => match gt δ i with
  | .ow l (.fl ds) => e δ fun w => k δ fun z => match clW w, z with
    | some d, .cl (.int z) => match ixN ds.length z with
      | some j => E.nx (δ.set i (.ow l (.fl (ds.set j d))))
      | none => False
    | _, _ => False
  | _ => False
def mAppend : FM := fun m ws P => match m, ws with
  | .fl ds, [.cl d] => ds.length < 1000000 ∧ P (.fl (ds ++ [d])) .non
  | _, _ => False
def mPop : FM := fun m ws P => match m, ws with
  | .fl ds, [] => match ds[ds.length - 1]? with
    | some d => P (.fl ds.dropLast) d
    | none => False
  | _, _ => False
def mPopAt : FM := fun m ws P => match m, ws with
  | .fl ds, [.cl (.int i)] => (0 ≤ i ∧ i < 2 ^ 63) ∧ match ds[i.toNat]? with
    | some d => P (.fl (ds.eraseIdx i.toNat)) d
    | none => False
  | _, _ => False
def mReverse : FM := fun m ws P => match m, ws with
  | .fl ds, [] => P (.fl ds.reverse) .non
  | _, _ => False
section
variable {T : Tb} {X : Cx} {G : Gx} {F H : Hp} {σ : L2.St} {δ : List AV} {l : Bool} {m : M} {i j : Nat} {Ty : String} {r : V → List V → Hp → VK → Prop} {f : FM} {xs : AA} {A : List Addr} {v : V}
theorem chg_upd {p : Addr} {o : HO} (ex : Same F H) (hp : p ∈ A) (hf : F p = none) : Chg F H A (upd H p o) := by
  refine ⟨fun a x e => ?_, fun a ha _ => upd_ne fun z => ha (z ▸ hp), fun a h1 => ?_⟩
  · rw [upd_ne (ne_of_none e hf)]; exact ex _ _ e
  · by_cases q : a = p
    · subst q; rw [upd_same]; simp
    · rw [upd_ne q]; exact h1
theorem dct_tyV {K : PySem.W.Frag} {t : Bool} {o : HO} {ks : List (List Key)} {vs : List V} {p : Addr} (d : DctO t o ks vs) (h : H p = some o) : tyV K "dict" (.ref p) H := by
  refine .inr (.inr (.inl ⟨rfl, ?_⟩))
  cases t
  · obtain ⟨_, kvs, rfl, _⟩ := d; exact .inl ⟨_, h⟩
  · obtain ⟨_, kvs, rfl, _⟩ := d; exact .inr ⟨_, h⟩
theorem ty_own {K : PySem.W.Frag} (h : Own T F H v m A) (ht : tyM m = Ty) (hT : Ty ≠ "") : tyV K Ty v H := by
  cases h with
  | cl r => exact absurd ht.symm hT
  | fl h f r => subst ht; exact .inl ⟨rfl, _, SqL.of h⟩
  | fd h f d r => subst ht; exact dct_tyV d h
  | tl h f x r => subst ht; exact .inl ⟨rfl, _, SqL.of h⟩
  | td h f d x r => subst ht; exact dct_tyV d h
  | ti h f d x r => exact absurd ht.symm hT
  | tp h x r => exact absurd ht.symm hT
  | nd q h f r => exact absurd ht.symm hT
theorem RepS.chg {A' : List Addr} {H' : Hp} {m' : M} (R : RepS T G F H σ δ) (e : gt δ i = .ow l m) (hv : gs σ i = some v) (hA : Own T F H v m A) (c : Chg F H A H') (o : Own T F H' v m' A') (hA' : ∀ a ∈ A', a ∈ A) : RepS T G F H' σ (δ.set i (.ow l m')) :=
  R.step (Go.refl R.ex) e hv hA c.ex (Same.refl _) (fun _ _ _ _ => rfl) c.fr c.th o fun a q => .inl (hA' a q)
theorem rd_mut (hf : MutV T r f) {P : M → D → Prop} {K : PySem.W.Frag} (hTK : T.K = K) (hT : Ty ≠ "") (R : RepS T G F H σ δ) (hg : gt δ i = .ow l m) (ht : tyM m = Ty) (h : xs δ fun ws => f m ws P) {Q : VK}
    (k : ∀ m' d, P m' d → ∀ v F' H', Same F F' → RepS T G F' H' σ (δ.set i (.ow l m')) → Rep T F' v d → Q v H') :
    tBM K Ty r (tVar i) (rdA T xs) σ H Q := by
  obtain ⟨v, A, e, ow, _⟩ := R.own hg
  refine ⟨v, gs_some e, ty_own ow ht hT, ?_⟩
  refine ⟨G, F, δ, _, R, h, fun ws hw vs F1 H1 g ra => ?_⟩
  have R1 := R.go g
  refine hf G F1 H1 v m A vs ws P Q g.ex (ow.go g) ra hw fun m' d hP z H' A' c o' hA' rv => ?_
  exact k m' d hP z F1 _ g.f (R1.chg hg e (ow.go g) c o' hA') rv
theorem rd_mut0 (hf : MutV T r f) {P : M → D → Prop} {K : PySem.W.Frag} (hT : Ty ≠ "") (R : RepS T G F H σ δ) (hg : gt δ i = .ow l m) (ht : tyM m = Ty) (h : f m [] P) {Q : VK}
    (k : ∀ m' d, P m' d → ∀ v F' H', Same F F' → RepS T G F' H' σ (δ.set i (.ow l m')) → Rep T F' v d → Q v H') :
    tBM0 K Ty r (tVar i) σ H Q := by
  obtain ⟨v, A, e, ow, _⟩ := R.own hg
  refine ⟨v, gs_some e, ty_own ow ht hT, ?_⟩
  refine hf G F H v m A [] [] P Q R.ex ow .nil h fun m' d hP z H' A' c o' hA' rv => ?_
  exact k m' d hP z F _ (Same.refl _) (R.chg hg e ow c o' hA') rv
variable {st : Stmt} {K : PySem.W.Frag}
theorem s_mut (hf : MutV T r f) (hTK : T.K = K) (h : PS X st (tDrop (tBM K Ty r (tVar i) (rdA T xs)))) (hT : Ty ≠ "" := by decide) : PS X st (rdS T (aMut Ty i f xs)) := h.mono fun D' σ H h => by
  obtain ⟨G, F, δ, E, R, h, k⟩ := h
  unfold aMut at h
  split at h
  · rename_i l m hg
    exact rd_mut hf hTK hT R hg h.1 h.2 fun m' d hP v F' H' s R' _ => k.nx _ hP F' H' _ s R'
  · exact h.elim
theorem s_mut0 (hf : MutV T r f) (h : PS X st (tDrop (tBM0 K Ty r (tVar i)))) (hT : Ty ≠ "" := by decide) : PS X st (rdS T (aMut Ty i f aNil)) := h.mono fun D' σ H h => by
  obtain ⟨G, F, δ, E, R, h, k⟩ := h
  unfold aMut at h
  split at h
  · rename_i l m hg
    exact rd_mut0 hf hT R hg h.1 h.2 fun m' d hP v F' H' s R' _ => k.nx _ hP F' H' _ s R'
  · exact h.elim
theorem s_mutS (hf : MutV T r f) (hTK : T.K = K) (h : PS X st (tAsg (tBM K Ty r (tVar i) (rdA T xs)) (gName j))) (hT : Ty ≠ "" := by decide) : PS X st (rdS T (aMutS Ty j i f xs)) := h.mono fun D' σ H h => by
  obtain ⟨G, F, δ, E, R, h, k⟩ := h
  unfold aMutS at h
  split at h
  · rename_i l m hg
    exact rd_mut hf hTK hT R hg h.1 h.2 fun m' d hP v F' H' s R' rv => k.nx _ hP F' H' _ s (R'.put (a := .im d) ⟨v, rfl, rv⟩ fun _ _ e => nomatch e)
  · exact h.elim
theorem s_mutS0 (hf : MutV T r f) (h : PS X st (tAsg (tBM0 K Ty r (tVar i)) (gName j))) (hT : Ty ≠ "" := by decide) : PS X st (rdS T (aMutS Ty j i f aNil)) := h.mono fun D' σ H h => by
  obtain ⟨G, F, δ, E, R, h, k⟩ := h
  unfold aMutS at h
  split at h
  · rename_i l m hg
    exact rd_mut0 hf hT R hg h.1 h.2 fun m' d hP v F' H' s R' rv => k.nx _ hP F' H' _ s (R'.put (a := .im d) ⟨v, rfl, rv⟩ fun _ _ e => nomatch e)
  · exact h.elim
theorem m_append : MutV T rAppend mAppend := by
  intro G F H v m A xs ws P Q sm ow ra h k
  unfold mAppend at h
  split at h
  · rename_i ds d
    obtain ⟨p, vs, rfl, rfl, ho, hf, r⟩ := own_fl ow
    cases ra with
    | cons r2 t =>
      cases t
      exact ⟨p, vs, _, rfl, rfl, ho, by rw [r.length]; exact dSz_lt h.1, k _ _ h.2 _ _ _ (chg_upd sm List.mem_cons_self hf) (.fl upd_same hf (r.snoc r2)) (fun _ q => q) .non⟩
  · exact h.elim
theorem m_pop : MutV T rPop mPop := by
  intro G F H v m A xs ws P Q sm ow ra h k
  unfold mPop at h
  split at h
  · rename_i ds
    obtain ⟨p, vs, rfl, rfl, ho, hf, r⟩ := own_fl ow
    cases ra
    split at h
    · rename_i d hd
      obtain ⟨v, hv, rv⟩ := r.getD hd
      rw [← r.length] at hv
      exact ⟨p, vs, v, rfl, rfl, ho, hv, k _ _ h _ _ _ (chg_upd sm List.mem_cons_self hf) (.fl upd_same hf r.dropLast) (fun _ q => q) rv⟩
    · exact h.elim
  · exact h.elim
theorem m_popAt : MutV T rPopAt mPopAt := by
  intro G F H v m A xs ws P Q sm ow ra h k
  unfold mPopAt at h
  split at h
  · rename_i ds i
    obtain ⟨p, vs, rfl, rfl, ho, hf, r⟩ := own_fl ow
    obtain ⟨⟨h0, h1⟩, h⟩ := h
    split at h
    · rename_i d hd
      obtain ⟨v, hv, rv⟩ := r.getD hd
      have hl : i.toNat < vs.length := (List.getElem?_eq_some_iff.mp hv).1
      have hx : ixN vs.length i = some i.toNat := by
        unfold ixN
        rw [if_pos h0, if_pos (by omega)]
      cases ra with
      | cons r2 t =>
        cases t
        exact ⟨p, vs, i, i.toNat, v, rfl, by rw [rep_int r2], ho, by omega, h1, (ixN_seq hx).1, hv, k _ _ h _ _ _ (chg_upd sm List.mem_cons_self hf) (.fl upd_same hf (r.eraseIdx _)) (fun _ q => q) rv⟩
    · exact h.elim
  · exact h.elim
theorem m_reverse : MutV T rReverse mReverse := by
  intro G F H v m A xs ws P Q sm ow ra h k
  unfold mReverse at h
  split at h
  · rename_i ds
    obtain ⟨p, vs, rfl, rfl, ho, hf, r⟩ := own_fl ow
    cases ra
    exact ⟨p, vs, rfl, rfl, ho, k _ _ h _ _ _ (chg_upd sm List.mem_cons_self hf) (.fl upd_same hf r.reverse) (fun _ q => q) .non⟩
  · exact h.elim
theorem clW_rep {F' H' : Hp} {v : V} {w : W} {d : D} (g : Go F H F' H') (r : RepW T G H F' H' v w) (h : clW w = some d) : ∃ F2, Go F H F2 H' ∧ Rep T F2 v d := by
  obtain ⟨F2, g2, _, _, r2, _⟩ := RepW.arg g r
  unfold clW at h
  split at h
  · rename_i d' hd
    cases h
    rw [hd] at r2
    exact ⟨F2, g2, r2⟩
  · cases h
theorem s_setIx {x kk : AE} (h : PS X st (tAsg (rdE T x) (gSub (tVar i) (rdE T kk) rSetL))) : PS X st (rdS T (aSetIx i kk x)) := h.mono fun D' σ H h => by
  obtain ⟨G, F, δ, E, R, h, k⟩ := h
  unfold aSetIx at h
  split at h
  · rename_i l ds hg
    refine ⟨G, F, δ, _, R, h, fun w hw v F1 H1 g r1 => ?_⟩
    obtain ⟨u, A, e, ow, _⟩ := (R.go g).own hg
    refine ⟨u, gs_some e, G, F1, δ, _, R.go g, hw, fun z hz kv F2 H2 g2 r2 => ?_⟩
    split at hz
    · rename_i d z hd
      split at hz
      · rename_i j hj
        obtain ⟨F3, g3, r3⟩ := clW_rep (g.trans g2) ((r1.go g2)) hd
        have R3 := R.go g3
        obtain ⟨u', A', e', ow', _⟩ := R3.own hg
        rw [e] at e'
        cases e'
        obtain ⟨p, vs, rfl, rfl, ho, hf, rr⟩ := own_fl ow'
        exact ⟨p, vs, z, j, rfl, rep_int r2, ho, by rw [rr.length]; exact hj, k.nx _ hz F3 _ σ g3.f (R3.chg hg e ow' (chg_upd R3.ex List.mem_cons_self hf) (.fl upd_same hf (Reps.set j rr r3)) fun _ q => q)⟩
      · exact hz.elim
    · exact hz.elim
  · exact h.elim
end
end Vl
namespace Vl
open PySem PySem.Spec PyProof.Rows L2

/-! ### what a def promises -/
/-- from the arguments to what is wanted of the answer -/
abbrev Ct := List W → (W → Prop) → Prop
def spC (T : Tb) (c : Ct) : Sp := fun vs H Q _ => ∃ G F ws P, Same F H ∧ RepAs T G F H vs ws ∧ c ws P ∧ ∀ w, P w → ∀ v F' H', Go F H F' H' → RepR T H F' H' v w → Q v H'
def aCall (c : Ct) (es : AA) : AE := fun δ Q => es δ fun ws => c ws Q
def avOf : W → AV
  | .cl d => .im d
  | .bw m => .bw m
  | .ow m => .bw m
  | .fr _ => .non
def startA (n : Nat) (ws : List W) : List AV := ws.map avOf ++ List.replicate (n - ws.length) .non
section
variable {T : Tb} {X : Cx} {G : Gx} {F F' H H' Hs : Hp} {v : V} {w : W}
theorem RepR.toW : ∀ {w : W}, RepR T H F' H' v w → RepW T G H F' H' v w
  | .cl d, h => h
  | .fr m, h => h
  | .bw m, h => h.elim
  | .ow m, h => h.elim
theorem RepAs.length : ∀ {vs : List V} {ws : List W}, RepAs T G F H vs ws → vs.length = ws.length
  | _, _, .nil => rfl
  | _, _, .cons _ t => by simp [RepAs.length t]
theorem RepAs.get : ∀ {vs : List V} {ws : List W} {i : Nat} {w : W}, RepAs T G F H vs ws → ws[i]? = some w → ∃ v, vs[i]? = some v ∧ RepA T G F H v w
  | _, _, _, _, .nil, h => by simp at h
  | _, _, 0, _, .cons r _, h => by simp at h; subst h; exact ⟨_, rfl, r⟩
  | _, _, i + 1, _, .cons _ t, h => by simpa using RepAs.get (i := i) t (by simpa using h)
theorem rd_call {c : Ct} {xs : AA} {E : XK} {σ : L2.St} {Q : VK} (h : rdE T (aCall c xs) σ H Q) : tCall (spC T c) [] E (rdA T xs) σ H Q := by
  obtain ⟨G, F, δ, P, R, h, k⟩ := h
  refine ⟨G, F, δ, _, R, h, fun ws hw vs F1 H1 g r => ?_⟩
  show spC T c (vs ++ []) H1 Q E
  rw [List.append_nil]
  exact ⟨G, F1, ws, P, g.ex, r, hw, fun w hP v F2 H2 g2 r2 => k w hP v F2 H2 (g.trans g2) ((RepR.toW r2).back g.h)⟩
variable {k : Nat} {f C : Addr} {fd : FuncData} {ps : List Str} {x : Str} {p pos apos : Pos} {e o : Expr} {es : List Expr} {c : Ct} {xs : AA}
theorem e_call (Fn : FnOk X.prog X.w X.K X.mg X.base CX0 k f fd ps (spC T c)) (hr : Room k X.A) (hg : Gl X x) (hm : X.mg x = some (.ref f)) (hk : PySem.W.keepIn X.K (.ref f) = true) (hb : Binds X.K fd ps [])
    (ha : PA X (e :: es) (rdA T xs)) (hdb : (x == ("__debug__" : Str)) = false := by decide) (he : starEach (e :: es) X.env = (false, eval e X.env) :: starEach es X.env := by rfl) (hpl : (backTo pos (starEach es X.env)).any (·.1) = false := by rfl) :
    PE X (.Call (.Name x p) (e :: es) [] pos) (rdE T (aCall c xs)) :=
  (pe_call Fn hr hg hm hk hb .nil (E := E0) pass0 ha hdb he hpl).mono fun _ _ _ h => rd_call h
/-- the slots at the start -/
theorem repS_start {N : Nat} {vs : List V} {ws : List W} (sm : Same F H) (r : RepAs T G F H vs ws) (hN : ws.length ≤ N) (Nm : List Str) (hNm : Nm.length = N) : RepS T ⟨H, F, [], .non⟩ F H (L2.start Nm vs) (startA N ws) := by
  have hl := r.length
  have hst : ∀ i, gs (L2.start Nm vs) i = vs[i]? := fun i => by
    unfold gs L2.start
    rw [List.getD_eq_getElem?_getD]
    by_cases hi : i < vs.length
    · rw [List.getElem?_append_left (by simpa using hi), List.getElem?_map]
      cases vs[i]? <;> rfl
    · rw [List.getElem?_append_right (by simpa using hi), List.getElem?_replicate, List.getElem?_eq_none_iff.mpr (by omega)]
      split <;> rfl
  have hgt : ∀ i, gt (startA N ws) i = ((ws[i]?).map avOf).getD .non := fun i => by
    unfold gt startA
    rw [List.getD_eq_getElem?_getD]
    by_cases hi : i < ws.length
    · rw [List.getElem?_append_left (by simpa using hi), List.getElem?_map]
    · rw [List.getElem?_append_right (by simpa using hi), List.getElem?_replicate, List.getElem?_eq_none_iff.mpr (show ws.length ≤ i by omega)]
      split <;> rfl
  refine ⟨sm, fun a o h _ => h, fun a h => h, fun a h => by simp at h, Same.refl _, fun a _ _ _ => rfl, ?_, fun i => ?_, fun i j l l' m m' u w A B ne e1 => ?_⟩
  · unfold startA L2.start
    simp [hl, hNm]
  · rw [hst, hgt]
    cases e : ws[i]? with
    | none => trivial
    | some w =>
      obtain ⟨v, hv, rv⟩ := r.get e
      rw [hv]
      cases w with
      | cl d => exact ⟨v, rfl, rv⟩
      | bw m =>
        obtain ⟨A, o, _⟩ := rv
        exact ⟨v, A, rfl, o, fun a q => ⟨by simp, (o.mem a q).1⟩⟩
      | ow m =>
        obtain ⟨A, o⟩ := rv
        exact ⟨v, A, rfl, o, fun a q => ⟨by simp, (o.mem a q).1⟩⟩
      | fr m => exact rv.elim
  · rw [hgt] at e1
    cases e : ws[i]? with
    | none => rw [e] at e1; cases e1
    | some w => rw [e] at e1; cases w <;> cases e1
variable {P : Program} {wd : World} {K : PySem.W.Frag} {mg : Str → Option Value} {base : Heap}
/-- THE RULE for a def: its body's reading over data, and what it comes to -/
theorem fn_ok {y qual : Str} {st : Stmt} {N ps : List Str} {a : AS} (Fn : Fun K y qual st f fd) (S : FnScope N ps (defScope st)) (len : ∀ ws P, c ws P → ws.length = ps.length) (hN : ps.length ≤ N.length)
    (hd : ∀ (cdv : Value) (A : Around) (outer : List Env) (s : Shared) (H : Hp) (E : XK), Room k (A.deeper (envOfC qual (defScope st) s.heap.objs.size f cdv)) →
      PSs (cxOf CX0 P wd K mg base N qual (defScope st) f cdv A outer s H E).nox (defBody st) (rdS T a))
    (hw : ∀ ws P, c ws P → a { nx := fun _ => P (.cl .non), rt := fun w _ => P w } (startA N.length ws)) : FnOk P wd K mg base CX0 (k + 1) f fd ps (spC T c) := by
  refine Fn.ok S (fun vs H Q E h => ?_) (fun cdv A outer s H vs Q E hr h => ?_)
  · obtain ⟨G, F, ws, P, sm, r, hc, _⟩ := h
    rw [r.length]; exact len ws P hc
  · obtain ⟨G, F, ws, P, sm, r, hc, kk⟩ := h
    refine ⟨_, hd cdv A outer s H E hr, ?_⟩
    have R := repS_start sm r (by rw [len ws P hc]; exact hN) N rfl
    refine ⟨_, F, _, _, R, hw ws P hc, ?_⟩
    have go : ∀ {F' H' : Hp} {σ' : L2.St} {δ' : List AV}, RepS T ⟨H, F, [], .non⟩ F' H' σ' δ' → Go F H F' H' := fun {F' H' σ' δ'} R' => ⟨fun a o e => R'.fr a o e (by simp), R'.f0, R'.ex, fun a h n => R'.fn a h (fun z => nomatch z) (Same.nt (fun b o e => R'.fr b o e (by simp)) h n)⟩
    exact ⟨fun δ' q F' H' σ' s R' => kk _ q .non F' H' (go R') .non, fun w δ' q v F' H' σ' s R' r' _ => kk w q v F' H' (go R') r', fun δ' q => q.elim, fun δ' q => q.elim⟩
end

/-! ### short forms -/
/-- a slot that is never changed by the def: what it gets is clean at once -/
def aSetC (i : Nat) (e : AE) : AS := fun E δ => e δ fun w => match clW w with
  | some d => E.nx (δ.set i (.im d))
  | none => False
section
variable {T : Tb} {X : Cx} {e a b : Expr} {x y : AE} {pos : Pos} {i : Nat} {G : Gx} {F H : Hp}
theorem rd_setC {D' : Ends} {σ : L2.St} {H : Hp} (h : rdS T (aSetC i x) D' σ H) : tAsg (rdE T x) (gName i) D' σ H := by
  obtain ⟨G, F, δ, E, R, h, k⟩ := h
  refine ⟨G, F, δ, _, R, h, fun w hw v F1 H1 g r => ?_⟩
  split at hw
  · rename_i d hd
    obtain ⟨F2, g2, r2⟩ := clW_rep g r hd
    exact k.nx _ hw F2 H1 _ g2.f ((R.go g2).put (a := .im d) ⟨v, rfl, r2⟩ fun _ _ e => nomatch e)
  · exact hw.elim
theorem s_setC {s : Str} {pos' : Pos} (hN : X.N.Nodup) (hi : X.N[i]? = some s) (hx : Loc X.env.scope s) (he : PE X e (rdE T x)) (hs : swapsWith e (some (.Name s pos')) pos.line X.env = pure false := by rfl) (hf : X.fn s = true ∨ X.env.scope.names.lookup s = some .local := by first | exact .inl rfl | exact .inr rfl | assumption) :
    PS X (.Assign [.Name s pos'] e pos) (rdS T (aSetC i x)) := (ps_set hN hi hx he hs hf).mono fun _ _ _ h => rd_setC h
theorem s_setCLc {ks : List Nat} {s : Str} {py : Pos} {elt tg iter : Expr} {ifs : List Expr} {scope : Scope} {own : List (Str × Nat)} {pos spos : Pos} {ai : AI} {ag : AG} {t : AT} {e : AE} (hc : X.calm = true) (hN : X.N.Nodup) (hy : X.N[i]? = some s) (hyl : X.env.scope.names.lookup s = some .local)
    (hsw : swapsWith (.ListComp elt [⟨tg, iter, ifs, 0⟩] scope pos) (some (.Name s py)) spos.line X.env = pure true) (hi : PI X tg iter (rdI T ai)) (ok : BlkOk X.N X.env.scope scope own) (hk : ∀ i ∈ ks, i ∈ own.map (·.2))
    (hg : ∀ (s : Shared) (H : Hp) (C : Addr) (cl : List (Str × Addr)) (fp : List Addr), PG (X.blk s H scope (compEnvC scope cl C X.env) fp) tg (rdG T ks ag)) (ht : ∀ (s : Shared) (H : Hp) (C : Addr) (cl : List (Str × Addr)) (fp : List Addr), PTs (X.blk s H scope (compEnvC scope cl C X.env) fp) ifs (rdT T t))
    (he : ∀ (s : Shared) (H : Hp) (C : Addr) (cl : List (Str × Addr)) (fp : List Addr), PE (X.blk s H scope (compEnvC scope cl C X.env) fp) elt (rdE T e)) (hs : ∀ x, foldedSetIterable iter X.env x = pure x := by intro _; rfl) :
    PS X (.Assign [.Name s py] (.ListComp elt [⟨tg, iter, ifs, 0⟩] scope pos) spos) (rdS T (aSetC i (aLc ai ag t e (own.map (·.2))))) := (ps_setLc hc hN hy hyl hsw hi ok hg ht he hs).mono fun D σ H h => by
  obtain ⟨G, F, δ, E, R, h, k⟩ := h
  refine rd_lc hk ⟨G, F, δ, _, R, h, fun w hw v F1 H1 g r => ?_⟩
  split at hw
  · rename_i d hd
    obtain ⟨F2, g2, r2⟩ := clW_rep g r hd
    exact k.nx _ hw F2 H1 _ g2.f ((R.go g2).put (a := .im d) ⟨v, rfl, r2⟩ fun _ _ e => nomatch e)
  · exact hw.elim
theorem e_ix (hTK : T.K = X.K) (ha : PE X a (rdE T x)) (hb : PE X b (rdE T y)) (hs : PlainIx b) : PE X (.Subscript a b pos) (rdE T (aBin dIx x y)) :=
  (pe_ix ix_seq ha hb hs).mono fun _ _ _ h => rd_bin (hTK ▸ b_ix) h
def dNeg : W → (W → Prop) → Prop := fun w Q => match w with
  | .cl (.int i) => Q (.cl (.int (-i)))
  | _ => False
theorem u_neg : Un1 T (rU fun i => .int (-i)) dNeg := by
  intro G F H F' H' x u P Q g r h k
  unfold dNeg at h
  split at h
  · exact ⟨_, rep_int r, k _ h _ _ _ g (.int _)⟩
  · exact h.elim
end
end Vl
namespace Vl
open PySem PySem.Spec PyProof.Rows L2

theorem _root_.L2.Room.u1 {k : Nat} {A : Around} (r : Room k A) : A.units + 1 < cLine := by have := r.un; omega
theorem _root_.L2.Room.u64 {k : Nat} {A : Around} (r : Room k A) : A.units + 64 < cLine := by have := r.un; omega
theorem _root_.L2.Room.u65 {k : Nat} {A : Around} (r : Room k A) : A.units + 65 < cLine := by have := r.un; omega

/-! ### lcm -/
def rLcm : List V → Hp → VK → Prop := fun vs H Q => ∃ a b : Int, vs = [.int a, .int b] ∧ (a.natAbs < 2 ^ 63 ∧ b.natAbs < 2 ^ 63) ∧ Q (.int ((Nat.lcm a.natAbs b.natAbs : Nat) : Int)) H
section
variable {X : Cx} {T : Tb}
theorem lcm_le (a b : Nat) : Nat.lcm a b ≤ a * b := by
  unfold Nat.lcm
  exact Nat.div_le_self _ _
theorem cr_lcm : CallR X (.builtin "math.lcm") rLcm := by
  intro pins s σ H vs us Q I r h
  obtain ⟨a, b, rfl, hs, q⟩ := h
  obtain ⟨t, u, rfl⟩ := Vals.int2 r
  have e : ((Nat.lcm 1 a.natAbs).lcm b.natAbs) = Nat.lcm a.natAbs b.natAbs := by rw [Nat.lcm_one_left]
  refine PySem.W.mg_lcm (by omega) (by omega) ?_ ?_
  · rw [e]
    have h1 := lcm_le a.natAbs b.natAbs
    have h2 : a.natAbs * b.natAbs < 2 ^ 126 := by
      have : (2:Nat) ^ 126 = 2 ^ 63 * 2 ^ 63 := by decide
      rw [this]
      exact Nat.mul_lt_mul'' hs.1 hs.2
    have h3 : (((Nat.lcm a.natAbs b.natAbs : Nat) : Int)).natAbs = Nat.lcm a.natAbs b.natAbs := rfl
    rw [h3]
    by_cases hz : Nat.lcm a.natAbs b.natAbs = 0
    · rw [hz]; decide
    · have : (Nat.lcm a.natAbs b.natAbs).log2 < 126 := (Nat.log2_lt hz).mpr (by omega)
      exact Nat.lt_trans this (by decide)
  · rw [e]
    exact ⟨.int _, H, I.tok _, ⟨_, rfl⟩, q⟩
end
def fLcm : List W → (W → Prop) → Prop := two fun w u Q => match w, u with
  | .cl (.int i), .cl (.int j) => (i.natAbs < 2 ^ 63 ∧ j.natAbs < 2 ^ 63) ∧ Q (.cl (.int ((Nat.lcm i.natAbs j.natAbs : Nat) : Int)))
  | _, _ => False
theorem c_lcm {T : Tb} : CallV T rLcm fLcm := by
  intro G F H F' H' xs ws P Q g r h k
  obtain ⟨x, y, w, u, rfl, rfl, rx, ry, h⟩ := two_inv h r
  split at h
  · exact ⟨_, _, by rw [rep_int rx, rep_int ry], h.1, k _ h.2 _ _ _ g (.int _)⟩
  · exact h.elim

/-! ### x += e -/
def aAugAdd (i : Nat) (e : AE) : AS := fun E δ => match gt δ i with
  | .im (.int a) => e δ fun w => match w with
    | .cl (.int b) => E.nx (δ.set i (.im (.int (a + b))))
    | _ => False
  | _ => False
def aAugSub (i : Nat) (e : AE) : AS := fun E δ => match gt δ i with
  | .im (.int a) => e δ fun w => match w with
    | .cl (.int b) => E.nx (δ.set i (.im (.int (a - b))))
    | _ => False
  | _ => False
section
variable {T : Tb} {X : Cx} {e : Expr} {x : AE} {pos pos' : Pos} {i : Nat} {y : Str}
theorem s_augAdd (hN : X.N.Nodup) (hi : X.N[i]? = some y) (hx : Loc X.env.scope y) (he : PE X e (rdE T x)) (hf : X.fn y = true ∨ X.env.scope.names.lookup y = some .local := by first | exact .inl rfl | exact .inr rfl | assumption) :
    PS X (.AugAssign (.Name y pos') .Add e pos) (rdS T (aAugAdd i x)) := (ps_aug hN hi hx he ip_add hf).mono fun D σ H h => by
  obtain ⟨G, F, δ, E, R, h, k⟩ := h
  unfold aAugAdd at h
  split at h
  · rename_i a hg
    have q := R.sl i
    rw [hg] at q
    obtain ⟨v, e, r⟩ := q
    cases rep_int r
    refine ⟨_, gs_some e, G, F, δ, _, R, h, fun w hw v F1 H1 g r => ?_⟩
    split at hw
    · rename_i b
      exact ⟨a, b, rfl, rep_int r, k.nx _ hw F1 H1 _ g.f ((R.go g).put (a := .im _) ⟨_, rfl, .int _⟩ fun _ _ e => nomatch e)⟩
    · exact hw.elim
  · exact h.elim
theorem s_augSub (hN : X.N.Nodup) (hi : X.N[i]? = some y) (hx : Loc X.env.scope y) (he : PE X e (rdE T x)) (hf : X.fn y = true ∨ X.env.scope.names.lookup y = some .local := by first | exact .inl rfl | exact .inr rfl | assumption) :
    PS X (.AugAssign (.Name y pos') .Sub e pos) (rdS T (aAugSub i x)) := (ps_aug hN hi hx he ip_sub hf).mono fun D σ H h => by
  obtain ⟨G, F, δ, E, R, h, k⟩ := h
  unfold aAugSub at h
  split at h
  · rename_i a hg
    have q := R.sl i
    rw [hg] at q
    obtain ⟨v, e, r⟩ := q
    cases rep_int r
    refine ⟨_, gs_some e, G, F, δ, _, R, h, fun w hw v F1 H1 g r => ?_⟩
    split at hw
    · rename_i b
      exact ⟨a, b, rfl, rep_int r, k.nx _ hw F1 H1 _ g.f ((R.go g).put (a := .im _) ⟨_, rfl, .int _⟩ fun _ _ e => nomatch e)⟩
    · exact hw.elim
  · exact h.elim
theorem e_gint {s : Str} {n : Int} {u : Tok} (hg : Gl X s) (hm : X.mg s = some (.int n u)) (hd : (s == ("__debug__" : Str)) = false := by decide) : PE X (.Name s pos) (rdE T (aC (.int n))) :=
  (pe_glob (v := .int n) hg hm ⟨_, rfl⟩ hd).mono fun _ _ _ h => rd_c (fun _ => .int n) h
theorem e_gintE {s : Str} {n : Int} (hg : Gl X s) (hm : ∃ u, X.mg s = some (.int n u)) (hd : (s == ("__debug__" : Str)) = false := by decide) : PE X (.Name s pos) (rdE T (aC (.int n))) := by
  obtain ⟨u, hm⟩ := hm
  exact e_gint hg hm hd
end

/-! ### contracts by the number of arguments -/
def args1 (f : W → (W → Prop) → Prop) : Ct := fun ws Q => match ws with
  | [a] => f a Q
  | _ => False
def args2 (f : W → W → (W → Prop) → Prop) : Ct := fun ws Q => match ws with
  | [a, b] => f a b Q
  | _ => False
def args3 (f : W → W → W → (W → Prop) → Prop) : Ct := fun ws Q => match ws with
  | [a, b, c] => f a b c Q
  | _ => False
def args4 (f : W → W → W → W → (W → Prop) → Prop) : Ct := fun ws Q => match ws with
  | [a, b, c, d] => f a b c d Q
  | _ => False
theorem args1_inv {f : W → (W → Prop) → Prop} {ws : List W} {Q : W → Prop} (h : args1 f ws Q) : ∃ a, ws = [a] ∧ f a Q := by
  unfold args1 at h
  split at h
  · exact ⟨_, rfl, h⟩
  · exact h.elim
theorem args2_inv {f : W → W → (W → Prop) → Prop} {ws : List W} {Q : W → Prop} (h : args2 f ws Q) : ∃ a b, ws = [a, b] ∧ f a b Q := by
  unfold args2 at h
  split at h
  · exact ⟨_, _, rfl, h⟩
  · exact h.elim
theorem args3_inv {f : W → W → W → (W → Prop) → Prop} {ws : List W} {Q : W → Prop} (h : args3 f ws Q) : ∃ a b c, ws = [a, b, c] ∧ f a b c Q := by
  unfold args3 at h
  split at h
  · exact ⟨_, _, _, rfl, h⟩
  · exact h.elim
theorem args4_inv {f : W → W → W → W → (W → Prop) → Prop} {ws : List W} {Q : W → Prop} (h : args4 f ws Q) : ∃ a b c d, ws = [a, b, c, d] ∧ f a b c d Q := by
  unfold args4 at h
  split at h
  · exact ⟨_, _, _, _, rfl, h⟩
  · exact h.elim
end Vl
/-! Reading bodies over data: computing rules, loops, comprehensions, equality. -/
namespace Vl
open PySem PySem.Spec PyProof.Rows L2

theorem gt_z (a : AV) (l : List AV) : gt (a :: l) 0 = a := rfl
theorem gt_s (a : AV) (l : List AV) (n : Nat) : gt (a :: l) (n + 1) = gt l n := rfl

/-! ### loops -/
def Loop (g : AG) (body : AS) (E : AEnds) (δ : List AV) (ds : List D) : Prop := ∃ I : Nat → List AV → Prop, I 0 δ ∧
  (∀ i d δ', ds[i]? = some d → I i δ' → g d δ' fun δ2 => body { E with nx := I (i + 1), ct := I (i + 1), bk := E.nx } δ2) ∧ ∀ δ', I ds.length δ' → E.nx δ'
theorem aFor_eq (ai : AI) (g : AG) (body : AS) (E : AEnds) (δ : List AV) : aFor ai g body E δ = ai δ fun ds => Loop g body E δ ds := rfl
section
variable {α : Type} {g : AG} {body : AS} {E : AEnds} {δ : List AV}
/-- over data that stands for xs: P by what is left -/
theorem for_map (enc : α → D) (xs : List α) (P : List α → List AV → Prop) (h0 : P xs δ) (hs : ∀ x r δ', (∃ l, xs = l ++ x :: r) → P (x :: r) δ' → g (enc x) δ' fun δ2 => body { E with nx := P r, ct := P r, bk := E.nx } δ2) (he : ∀ δ', P [] δ' → E.nx δ') :
    Loop g body E δ (xs.map enc) := by
  refine ⟨fun i δ' => P (xs.drop i) δ', h0, fun i d δ' hd hp => ?_, fun δ' hp => ?_⟩
  · rw [List.getElem?_map] at hd
    cases e : xs[i]? with
    | none => rw [e] at hd; cases hd
    | some x =>
      rw [e] at hd
      cases hd
      obtain ⟨hl, he⟩ := List.getElem?_eq_some_iff.mp e
      have e2 : xs.drop i = x :: xs.drop (i + 1) := by rw [List.drop_eq_getElem_cons hl, he]
      have hp : P (xs.drop i) δ' := hp
      rw [e2] at hp
      exact hs x (xs.drop (i + 1)) δ' ⟨xs.take i, by rw [← e2, List.take_append_drop]⟩ hp
  · have hp : P (xs.drop (xs.map enc).length) δ' := hp
    rw [List.length_map, List.drop_length] at hp
    exact he δ' hp
/-- over data as it is -/
theorem for_lst (ds : List D) (P : List D → List AV → Prop) (h0 : P ds δ) (hs : ∀ x r δ', (∃ l, ds = l ++ x :: r) → P (x :: r) δ' → g x δ' fun δ2 => body { E with nx := P r, ct := P r, bk := E.nx } δ2) (he : ∀ δ', P [] δ' → E.nx δ') :
    Loop g body E δ ds := by
  have h := for_map (g := g) (body := body) (E := E) (δ := δ) id ds P h0 (fun x r δ' e hp => hs x r δ' e hp) he
  rw [List.map_id] at h
  exact h
theorem ups_get {lo : Int} {n i : Nat} {d : D} (h : (ups lo n)[i]? = some d) : i < n ∧ d = .int (lo + (i : Nat)) := by
  unfold ups at h
  rw [List.getElem?_map] at h
  by_cases hi : i < n
  · rw [List.getElem?_range hi] at h
    cases h
    exact ⟨hi, rfl⟩
  · rw [List.getElem?_eq_none_iff.mpr (by simpa using hi)] at h
    cases h
theorem ups_len {lo : Int} {n : Nat} : (ups lo n).length = n := by unfold ups; simp
/-- over lo, lo + 1, .. -/
theorem for_up {lo : Int} {n : Nat} (P : Nat → List AV → Prop) (h0 : P 0 δ) (hs : ∀ i δ', i < n → P i δ' → g (.int (lo + (i : Nat))) δ' fun δ2 => body { E with nx := P (i + 1), ct := P (i + 1), bk := E.nx } δ2) (he : ∀ δ', P n δ' → E.nx δ') :
    Loop g body E δ (ups lo n) :=
  ⟨P, h0, fun i d δ' hd hp => by obtain ⟨hi, rfl⟩ := ups_get hd; exact hs i δ' hi hp, fun δ' hp => by rw [ups_len] at hp; exact he δ' hp⟩
theorem while_by (P : Nat → List AV → Prop) (m : Nat) (h0 : P m δ) {t : AT} (hs : ∀ m δ', P m δ' → t δ' fun b => if b = true then body { E with nx := fun δ2 => ∃ m', m' < m ∧ P m' δ2, ct := fun δ2 => ∃ m', m' < m ∧ P m' δ2, bk := E.nx } δ' else E.nx δ') : aWhile t body E δ :=
  ⟨P, ⟨m, h0⟩, hs⟩
/-- an if that both ways walk on: the rest twice -/
theorem cut_self {s t : AS} (h : s { E with nx := t E } δ) : aCut s t E δ := ⟨_, h, fun _ q => q⟩
theorem cut_by {s t : AS} (M : List AV → Prop) (h : s { E with nx := M } δ) (k : ∀ δ', M δ' → t E δ') : aCut s t E δ := ⟨M, h, k⟩
end

/-! ### comprehensions -/
section
variable {α : Type} {g : AG} {t : AT} {e : AE} {δ : List AV} {Q : W → Prop}
/-- over data that stands for xs, every item kept or not by p, its data by f -/
theorem lc_map (enc : α → D) (p : α → Bool) (f : α → D) : ∀ (xs : List α) (acc : List D), acc.length + xs.length ≤ 1000000 →
    (∀ x ∈ xs, ∀ K : W → Prop, ∀ L : Prop, (p x = true → K (.cl (f x))) → (p x = false → L) → g (enc x) δ fun δ2 => t δ2 fun b => if b = true then e δ2 (fun w => K (argW w)) else L) →
    Q (.fr (.fl (acc ++ (xs.filter p).map f))) → lcGo g t e δ (xs.map enc) acc Q
  | [], acc, _, _, q => by simpa [lcGo] using q
  | x :: xs, acc, hl, h, q => by
    have hl' : acc.length + (xs.length + 1) ≤ 1000000 := by simpa using hl
    show lcGo g t e δ (enc x :: xs.map enc) acc Q
    unfold lcGo
    have hx := h x (List.mem_cons_self) (fun w => match w with
      | .cl y => acc.length < 1000000 ∧ lcGo g t e δ (xs.map enc) (acc ++ [y]) Q
      | _ => False) (lcGo g t e δ (xs.map enc) acc Q) (fun hp => ⟨by omega, ?_⟩) (fun hp => ?_)
    · exact hx
    · refine lc_map enc p f xs (acc ++ [f x]) (by rw [List.length_append, List.length_singleton]; omega) (fun y hy => h y (List.mem_cons_of_mem _ hy)) ?_
      rw [List.filter_cons, if_pos hp] at q
      simpa using q
    · refine lc_map enc p f xs acc (by omega) (fun y hy => h y (List.mem_cons_of_mem _ hy)) ?_
      rw [List.filter_cons, if_neg (by rw [hp]; decide)] at q
      exact q
/-- without a test -/
theorem lc_all (enc : α → D) (f : α → D) (xs : List α) (hl : xs.length ≤ 1000000)
    (h : ∀ x ∈ xs, ∀ K : W → Prop, K (.cl (f x)) → g (enc x) δ fun δ2 => e δ2 (fun w => K (argW w))) (q : Q (.fr (.fl (xs.map f)))) : lcGo g aYes e δ (xs.map enc) [] Q :=
  lc_map enc (fun _ => true) f xs [] (by simpa using hl) (fun x hx K L k _ => by
    have := h x hx K (k rfl)
    simpa [aYes] using this) (by
    have e : xs.filter (fun _ => true) = xs := List.filter_eq_self.mpr fun _ _ => rfl
    rw [e]
    exact q)
end

/-! ### equality -/
theorem pds_map (ds : List D) : pds ds = ds.map pd := by
  induction ds with
  | nil => rfl
  | cons d ds ih => rw [pds, ih]; rfl
theorem okD_int (i : Int) : okD (.int i) = true := rfl
theorem okD_bl (i : Bool) : okD (.bl i) = true := rfl
theorem okD_non : okD .non = true := rfl
theorem okD_str (i : Str) (h : PyData.strOk i = true) : okD (.str i) = true := by
  unfold okD SeqAt.shaped
  simp [pd, PyData.canLay0, PyData.depth, h]
theorem eqD_int (i j : Int) : eqD (.int i) (.int j) = decide (i = j) := by
  show (i == j) = decide (i = j)
  by_cases h : i = j <;> simp [h]
theorem eqD_bl (i j : Bool) : eqD (.bl i) (.bl j) = (i == j) := rfl
theorem eqD_str (i j : Str) : eqD (.str i) (.str j) = decide (i = j) := by
  show (i == j) = decide (i = j)
  by_cases h : i = j <;> simp [h]
theorem eqD_non : eqD .non .non = true := rfl
theorem eqD_non_int (i : Int) : eqD .non (.int i) = false := rfl
theorem eqD_int_non (i : Int) : eqD (.int i) .non = false := rfl
theorem eqD_non_tup (i : List D) : eqD .non (.tup i) = false := rfl
theorem eqD_tup_non (i : List D) : eqD (.tup i) .non = false := rfl
theorem eqD_non_lst (i : List D) : eqD .non (.lst i) = false := rfl
theorem eqD_lst_non (i : List D) : eqD (.lst i) .non = false := rfl
/-- depth at most n, no dict, no instance -/
def dep (n : Nat) (d : D) : Prop := (pd d).canLay0 = true ∧ (pd d).depth ≤ n
theorem dep_ok {n : Nat} {d : D} (h : dep n d) (hn : n ≤ 64) : okD d = true := by
  unfold okD SeqAt.shaped
  rw [h.1, Bool.true_and]
  exact decide_eq_true (Nat.le_trans h.2 hn)
theorem dep_mono {m n : Nat} {d : D} (h : dep m d) (hn : m ≤ n) : dep n d := ⟨h.1, Nat.le_trans h.2 hn⟩
theorem dep_int (n : Nat) (i : Int) : dep n (.int i) := ⟨rfl, Nat.zero_le _⟩
theorem dep_bl (n : Nat) (i : Bool) : dep n (.bl i) := ⟨rfl, Nat.zero_le _⟩
theorem dep_str (n : Nat) (i : Str) (h : PyData.strOk i = true) : dep n (.str i) := ⟨by simp [pd, PyData.canLay0, h], Nat.zero_le _⟩
theorem dep_non (n : Nat) : dep n .non := ⟨rfl, Nat.zero_le _⟩
theorem dep_all {n : Nat} : ∀ {ds : List D}, (∀ d ∈ ds, dep n d) → PyData.canLayAll0 (pds ds) = true ∧ PyData.depthAll (pds ds) ≤ n
  | [], _ => ⟨rfl, Nat.zero_le _⟩
  | d :: ds, h => by
    have h1 := h d List.mem_cons_self
    have h2 := dep_all (ds := ds) fun x hx => h x (List.mem_cons_of_mem _ hx)
    refine ⟨?_, ?_⟩
    · show ((pd d).canLay0 && PyData.canLayAll0 (pds ds)) = true
      rw [h1.1, h2.1]; rfl
    · show max (pd d).depth (PyData.depthAll (pds ds)) ≤ n
      exact Nat.max_le.mpr ⟨h1.2, h2.2⟩
theorem dep_lst {n : Nat} {ds : List D} (h : ∀ d ∈ ds, dep n d) : dep (n + 1) (.lst ds) := by
  have h2 := dep_all h
  refine ⟨?_, ?_⟩
  · simpa [pd, PyData.canLay0] using h2.1
  · show (PyData.list (pds ds)).depth ≤ n + 1
    have := h2.2
    simp only [PyData.depth]
    omega
theorem dep_tup {n : Nat} {ds : List D} (h : ∀ d ∈ ds, dep n d) : dep (n + 1) (.tup ds) := by
  have h2 := dep_all h
  refine ⟨?_, ?_⟩
  · simpa [pd, PyData.canLay0] using h2.1
  · show (PyData.tuple (pds ds)).depth ≤ n + 1
    have := h2.2
    simp only [PyData.depth]
    omega
/-- == of two lists, of two tuples, item by item -/
theorem eqv_all {α β : Type} {f : α → D} {g : β → D} : ∀ {xs : List α} {ys : List β}, PyData.eqvAll (pds (xs.map f)) (pds (ys.map g)) = true ↔ xs.length = ys.length ∧ ∀ (i : Nat) (x : α) (y : β), xs[i]? = some x → ys[i]? = some y → eqD (f x) (g y) = true
  | [], [] => by simp [pds, PyData.eqvAll]
  | [], y :: ys => by simp [pds, PyData.eqvAll]
  | x :: xs, [] => by simp [pds, PyData.eqvAll]
  | x :: xs, y :: ys => by
    have ih := eqv_all (f := f) (g := g) (xs := xs) (ys := ys)
    show (eqD (f x) (g y) && PyData.eqvAll (pds (xs.map f)) (pds (ys.map g))) = true ↔ _
    rw [Bool.and_eq_true, ih]
    constructor
    · rintro ⟨h1, h2, h3⟩
      refine ⟨by simp [h2], fun i a b ha hb => ?_⟩
      cases i with
      | zero => simp at ha hb; subst ha hb; exact h1
      | succ i => exact h3 i a b (by simpa using ha) (by simpa using hb)
    · rintro ⟨h1, h2⟩
      exact ⟨h2 0 x y rfl rfl, by simpa using h1, fun i a b ha hb => h2 (i + 1) a b (by simpa using ha) (by simpa using hb)⟩
theorem eqD_lst {α : Type} [DecidableEq α] {f : α → D} (hf : ∀ x y, eqD (f x) (f y) = decide (x = y)) (xs ys : List α) : eqD (.lst (xs.map f)) (.lst (ys.map f)) = decide (xs = ys) := by
  have h := eqv_all (f := f) (g := f) (xs := xs) (ys := ys)
  show PyData.eqvAll (pds (xs.map f)) (pds (ys.map f)) = _
  rw [Bool.eq_iff_iff, h, decide_eq_true_eq]
  constructor
  · rintro ⟨h1, h2⟩
    apply List.ext_getElem?
    intro i
    cases e : xs[i]? with
    | none =>
      have := List.getElem?_eq_none_iff.mp e
      rw [List.getElem?_eq_none_iff.mpr (by omega)]
    | some x =>
      have hi := (List.getElem?_eq_some_iff.mp e).1
      have e2 : ys[i]? = some ys[i] := List.getElem?_eq_getElem (by omega)
      have := h2 i x _ e e2
      rw [hf, decide_eq_true_eq] at this
      rw [e2, this]
  · rintro rfl
    refine ⟨rfl, fun i x y hx hy => ?_⟩
    rw [hx] at hy
    cases hy
    rw [hf]; simp
theorem eqD_ints (xs ys : List Int) : eqD (.lst (xs.map .int)) (.lst (ys.map .int)) = decide (xs = ys) := eqD_lst eqD_int xs ys
theorem eqD_lst_refl (d : D) : PyData.canLay0 (pd d) = true → eqD d d = true := fun h => SeqAt.eqv_refl _ h

/-! ### computing rules -/
theorem dSub_eq (x y : W) (Q : W → Prop) : dSub x y Q = dI0 (fun i j => .int (i - j)) x y Q := rfl
theorem dDiv_eq (x y : W) (Q : W → Prop) : dDiv x y Q = dI (fun _ j => 0 < j ∧ j < 1073741824) (fun i j => .int (i / j)) x y Q := rfl
theorem dMod_eq (x y : W) (Q : W → Prop) : dMod x y Q = dI (fun _ j => 0 < j) (fun i j => .int (i % j)) x y Q := rfl
theorem dShl_eq (x y : W) (Q : W → Prop) : dShl x y Q = dI (fun i j => 0 ≤ j ∧ j ≤ 1000000 ∧ i.natAbs < 2 ^ 64) (fun i j => .int (i * 2 ^ j.toNat)) x y Q := rfl
theorem dPow_eq (x y : W) (Q : W → Prop) : dPow x y Q = dI (fun i j => 0 ≤ j ∧ j ≤ 1000000 ∧ i.natAbs < 2 ^ 64) (fun i j => .int (i ^ j.toNat)) x y Q := rfl
theorem dLt_eq (x y : W) (Q : W → Prop) : dLt x y Q = dI0 (fun i j => .bl (decide (i < j))) x y Q := rfl
theorem dLe_eq (x y : W) (Q : W → Prop) : dLe x y Q = dI0 (fun i j => .bl (decide (i ≤ j))) x y Q := rfl
theorem dGt_eq (x y : W) (Q : W → Prop) : dGt x y Q = dI0 (fun i j => .bl (decide (j < i))) x y Q := rfl
theorem dGe_eq (x y : W) (Q : W → Prop) : dGe x y Q = dI0 (fun i j => .bl (decide (j ≤ i))) x y Q := rfl
theorem fLen_lst (ds : List D) (Q : W → Prop) : fLen1 [.cl (.lst ds)] Q = Q (.cl (.int ds.length)) := rfl
theorem fLen_tup (ds : List D) (Q : W → Prop) : fLen1 [.cl (.tup ds)] Q = Q (.cl (.int ds.length)) := rfl
theorem fLen_ow (ds : List D) (Q : W → Prop) : fLen1 [.ow (.fl ds)] Q = Q (.cl (.int ds.length)) := rfl
theorem fLen_bw (ds : List D) (Q : W → Prop) : fLen1 [.bw (.fl ds)] Q = Q (.cl (.int ds.length)) := rfl
theorem fLen_scr (ds : List Int) (Q : W → Prop) : fLen1 [.cl (.scr ds)] Q = Q (.cl (.int ds.length)) := by
  show Q (.cl (.int ((ds.map D.int).length : Nat))) = _
  rw [List.length_map]
theorem fLen_str (z : Str) (Q : W → Prop) : fLen1 [.cl (.str z)] Q = (z.length ≤ 1000000 ∧ Q (.cl (.int z.length))) := rfl
theorem fInt_int (i : Int) (Q : W → Prop) : fInt [.cl (.int i)] Q = Q (.cl (.int i)) := rfl
theorem fInt_bl (b : Bool) (Q : W → Prop) : fInt [.cl (.bl b)] Q = Q (.cl (.int (if b then 1 else 0))) := rfl
theorem fAbs_int (i : Int) (Q : W → Prop) : fAbs [.cl (.int i)] Q = Q (.cl (.int (if i < 0 then -i else i))) := rfl
theorem fMax_int (i j : Int) (Q : W → Prop) : fMax2 [.cl (.int i), .cl (.int j)] Q = Q (.cl (.int (if j > i then j else i))) := rfl
theorem fMin_int (i j : Int) (Q : W → Prop) : fMin2 [.cl (.int i), .cl (.int j)] Q = Q (.cl (.int (if j < i then j else i))) := rfl
theorem fGcd_int (i j : Int) (Q : W → Prop) : fGcd [.cl (.int i), .cl (.int j)] Q = Q (.cl (.int ((Nat.gcd i.natAbs j.natAbs : Nat) : Int))) := rfl
theorem fLcm_int (i j : Int) (Q : W → Prop) : fLcm [.cl (.int i), .cl (.int j)] Q = ((i.natAbs < 2 ^ 63 ∧ j.natAbs < 2 ^ 63) ∧ Q (.cl (.int ((Nat.lcm i.natAbs j.natAbs : Nat) : Int)))) := rfl
theorem fList_lst (ds : List D) (Q : W → Prop) : fList [.cl (.lst ds)] Q = Q (.fr (.fl ds)) := rfl
theorem fList_tup (ds : List D) (Q : W → Prop) : fList [.cl (.tup ds)] Q = Q (.fr (.fl ds)) := rfl
theorem fList_ow (ds : List D) (Q : W → Prop) : fList [.ow (.fl ds)] Q = Q (.fr (.fl ds)) := rfl
theorem fList_bw (ds : List D) (Q : W → Prop) : fList [.bw (.fl ds)] Q = Q (.fr (.fl ds)) := rfl
theorem fList_scr (ds : List Int) (Q : W → Prop) : fList [.cl (.scr ds)] Q = Q (.fr (.fl (ds.map .int))) := rfl
theorem snoc_map {α : Type} (f : α → D) (xs : List α) (x : α) : xs.map f ++ [f x] = (xs ++ [x]).map f := by rw [List.map_append]; rfl
theorem snoc_int (xs : List Int) (x : Int) : xs.map D.int ++ [D.int x] = (xs ++ [x]).map D.int := snoc_map D.int xs x
theorem ixD_0 {α : Type} (a : α) (r : List α) : ixD (a :: r) 0 = some a := rfl
theorem ixD_1 {α : Type} (a b : α) (r : List α) : ixD (a :: b :: r) 1 = some b := rfl
theorem ixD_2 {α : Type} (a b c : α) (r : List α) : ixD (a :: b :: c :: r) 2 = some c := rfl
theorem ixD_3 {α : Type} (a b c d : α) (r : List α) : ixD (a :: b :: c :: d :: r) 3 = some d := rfl
theorem ixD_4 {α : Type} (a b c d e : α) (r : List α) : ixD (a :: b :: c :: d :: e :: r) 4 = some e := rfl
theorem ixD_5 {α : Type} (a b c d e f : α) (r : List α) : ixD (a :: b :: c :: d :: e :: f :: r) 5 = some f := rfl
theorem ixD_6 {α : Type} (a b c d e f g : α) (r : List α) : ixD (a :: b :: c :: d :: e :: f :: g :: r) 6 = some g := rfl
theorem ixD_7 {α : Type} (a b c d e f g h : α) (r : List α) : ixD (a :: b :: c :: d :: e :: f :: g :: h :: r) 7 = some h := rfl
theorem ixD_8 {α : Type} (a b c d e f g h i : α) (r : List α) : ixD (a :: b :: c :: d :: e :: f :: g :: h :: i :: r) 8 = some i := rfl
theorem ixD_9 {α : Type} (a b c d e f g h i j : α) (r : List α) : ixD (a :: b :: c :: d :: e :: f :: g :: h :: i :: j :: r) 9 = some j := rfl
theorem ixD_10 {α : Type} (a b c d e f g h i j k : α) (r : List α) : ixD (a :: b :: c :: d :: e :: f :: g :: h :: i :: j :: k :: r) 10 = some k := rfl
theorem ixD_11 {α : Type} (a b c d e f g h i j k l : α) (r : List α) : ixD (a :: b :: c :: d :: e :: f :: g :: h :: i :: j :: k :: l :: r) 11 = some l := rfl
theorem len_1 {α : Type} {xs : List α} (h : xs.length = 1) : ∃ a, xs = [a] := match xs, h with
  | [a], _ => ⟨a, rfl⟩
theorem len_2 {α : Type} {xs : List α} (h : xs.length = 2) : ∃ a b, xs = [a, b] := match xs, h with
  | [a, b], _ => ⟨a, b, rfl⟩
theorem len_3 {α : Type} {xs : List α} (h : xs.length = 3) : ∃ a b c, xs = [a, b, c] := match xs, h with
  | [a, b, c], _ => ⟨a, b, c, rfl⟩
theorem len_4 {α : Type} {xs : List α} (h : xs.length = 4) : ∃ a b c d, xs = [a, b, c, d] := match xs, h with
  | [a, b, c, d], _ => ⟨a, b, c, d, rfl⟩
theorem len_5 {α : Type} {xs : List α} (h : xs.length = 5) : ∃ a b c d e, xs = [a, b, c, d, e] := match xs, h with
  | [a, b, c, d, e], _ => ⟨a, b, c, d, e, rfl⟩
theorem len_6 {α : Type} {xs : List α} (h : xs.length = 6) : ∃ a b c d e f, xs = [a, b, c, d, e, f] := match xs, h with
  | [a, b, c, d, e, f], _ => ⟨a, b, c, d, e, f, rfl⟩
theorem len_7 {α : Type} {xs : List α} (h : xs.length = 7) : ∃ a b c d e f g, xs = [a, b, c, d, e, f, g] := match xs, h with
  | [a, b, c, d, e, f, g], _ => ⟨a, b, c, d, e, f, g, rfl⟩
theorem len_8 {α : Type} {xs : List α} (h : xs.length = 8) : ∃ a b c d e f g h, xs = [a, b, c, d, e, f, g, h] := match xs, h with
  | [a, b, c, d, e, f, g, h], _ => ⟨a, b, c, d, e, f, g, h, rfl⟩
theorem len_9 {α : Type} {xs : List α} (h : xs.length = 9) : ∃ a b c d e f g h i, xs = [a, b, c, d, e, f, g, h, i] := match xs, h with
  | [a, b, c, d, e, f, g, h, i], _ => ⟨a, b, c, d, e, f, g, h, i, rfl⟩
theorem len_10 {α : Type} {xs : List α} (h : xs.length = 10) : ∃ a b c d e f g h i j, xs = [a, b, c, d, e, f, g, h, i, j] := match xs, h with
  | [a, b, c, d, e, f, g, h, i, j], _ => ⟨a, b, c, d, e, f, g, h, i, j, rfl⟩
theorem len_11 {α : Type} {xs : List α} (h : xs.length = 11) : ∃ a b c d e f g h i j k, xs = [a, b, c, d, e, f, g, h, i, j, k] := match xs, h with
  | [a, b, c, d, e, f, g, h, i, j, k], _ => ⟨a, b, c, d, e, f, g, h, i, j, k, rfl⟩
theorem len_12 {α : Type} {xs : List α} (h : xs.length = 12) : ∃ a b c d e f g h i j k l, xs = [a, b, c, d, e, f, g, h, i, j, k, l] := match xs, h with
  | [a, b, c, d, e, f, g, h, i, j, k, l], _ => ⟨a, b, c, d, e, f, g, h, i, j, k, l, rfl⟩
theorem cutD_map {α : Type} (f : α → D) (xs : List α) (lo hi : Option Int) : cutD (xs.map f) lo hi = ((xs.drop (HT.sIx xs.length 0 lo)).take (HT.sIx xs.length xs.length hi - HT.sIx xs.length 0 lo)).map f := by
  unfold cutD
  rw [List.length_map, List.map_take, List.map_drop]
def cutL {α : Type} (xs : List α) (lo hi : Option Int) : List α := (xs.drop (HT.sIx xs.length 0 lo)).take (HT.sIx xs.length xs.length hi - HT.sIx xs.length 0 lo)
theorem cutD_cutL {α : Type} (f : α → D) (xs : List α) (lo hi : Option Int) : cutD (xs.map f) lo hi = (cutL xs lo hi).map f := cutD_map f xs lo hi
theorem cutL_len {α : Type} (xs : List α) (lo hi : Option Int) : (cutL xs lo hi).length ≤ xs.length := by
  unfold cutL
  rw [List.length_take, List.length_drop]
  omega
theorem cutL_mem {α : Type} {xs : List α} {lo hi : Option Int} {x : α} (h : x ∈ cutL xs lo hi) : x ∈ xs := List.mem_of_mem_drop (List.mem_of_mem_take h)
/-- the answers of the items are not told, but that each is one of S -/
theorem lc_any {α β : Type} {g : AG} {e : AE} {δ : List AV} {Q : W → Prop} (enc : α → D) (dec : β → D) (S : β → Prop) : ∀ (xs : List α) (acc : List β), acc.length + xs.length ≤ 1000000 → (∀ b ∈ acc, S b) →
    (∀ x ∈ xs, ∀ K : W → Prop, (∀ b, S b → K (.cl (dec b))) → g (enc x) δ fun δ2 => e δ2 fun w => K (argW w)) →
    (∀ bs : List β, bs.length = acc.length + xs.length → (∀ b ∈ bs, S b) → Q (.fr (.fl (bs.map dec)))) → lcGo g aYes e δ (xs.map enc) (acc.map dec) Q
  | [], acc, _, hS, _, q => by
    show Q (.fr (.fl (acc.map dec)))
    exact q acc (by simp) hS
  | x :: xs, acc, hl, hS, h, q => by
    have hl' : acc.length + (xs.length + 1) ≤ 1000000 := by simpa using hl
    show lcGo g aYes e δ (enc x :: xs.map enc) (acc.map dec) Q
    unfold lcGo
    refine h x List.mem_cons_self (fun w => match w with
      | .cl y => (acc.map dec).length < 1000000 ∧ lcGo g aYes e δ (xs.map enc) (acc.map dec ++ [y]) Q
      | _ => False) fun b hb => ⟨by rw [List.length_map]; omega, ?_⟩
    rw [snoc_map]
    refine lc_any enc dec S xs (acc ++ [b]) (by rw [List.length_append, List.length_singleton]; omega) (fun c hc => ?_) (fun y hy => h y (List.mem_cons_of_mem _ hy)) fun bs hl hs => q bs (by rw [hl]; simp; omega) hs
    rcases List.mem_append.mp hc with hc | hc
    · exact hS c hc
    · rw [List.mem_singleton.mp hc]; exact hb
theorem isi_bl_bool (b : Bool) : isiF (.bl b) "bool" = some true := rfl
theorem isi_bl_int (b : Bool) : isiF (.bl b) "int" = some true := rfl
theorem isi_int_int (b : Int) : isiF (.int b) "int" = some true := rfl
theorem isi_int_bool (b : Int) : isiF (.int b) "bool" = some false := rfl
theorem isi_non_int  : isiF (.non) "int" = some false := rfl
theorem isi_non_bool  : isiF (.non) "bool" = some false := rfl
theorem isi_lst_list (b : List D) : isiF (.lst b) "list" = some true := rfl
theorem isi_tup_list (b : List D) : isiF (.tup b) "list" = some false := rfl
theorem isi_tup_tuple (b : List D) : isiF (.tup b) "tuple" = some true := rfl
theorem isi_non_tuple  : isiF (.non) "tuple" = some false := rfl
theorem isi_non_list  : isiF (.non) "list" = some false := rfl
theorem isi_str_str (b : Str) : isiF (.str b) "str" = some true := rfl
theorem isi_lst_bool (b : List D) : isiF (.lst b) "bool" = some false := rfl
theorem isi_str_bool (b : Str) : isiF (.str b) "bool" = some false := rfl
theorem isi_tup_bool (b : List D) : isiF (.tup b) "bool" = some false := rfl
theorem inD_bls {α : Type} (f : α → Bool) (xs : List α) : inD (.bl true) (xs.map fun x => .bl (f x)) = xs.any f := by
  unfold inD
  rw [List.any_map]
  congr 1
  funext x
  show (f x == true) = f x
  cases f x <;> rfl
theorem okD_lst {n : Nat} {ds : List D} (h : ∀ d ∈ ds, dep n d) (hn : n ≤ 63) : okD (.lst ds) = true := dep_ok (dep_lst h) (by omega)
theorem okD_tup {n : Nat} {ds : List D} (h : ∀ d ∈ ds, dep n d) (hn : n ≤ 63) : okD (.tup ds) = true := dep_ok (dep_tup h) (by omega)
theorem okD_map {α : Type} {n : Nat} {f : α → D} {xs : List α} (h : ∀ x, dep n (f x)) (hn : n ≤ 63) : okD (.lst (xs.map f)) = true := okD_lst (n := n) (fun d hd => by
  obtain ⟨x, _, rfl⟩ := List.mem_map.mp hd
  exact h x) hn
end Vl
set_option maxHeartbeats 2000000
/-! super().__init__(..) of an own exception, two classes deep; over the heap alone. -/
namespace Vl
open PySem PySem.Spec PyProof.Rows L2
open PySem.W PySem.Calls
/-- what stands for a def that speaks of super() -/
structure SupF (P : Program) (K : Frag) (name qual : Str) (st : Stmt) (f : Addr) (fd : FuncData) (D : Addr) : Prop where
  ex : ∃ (oc : Value) (od : Option Addr) (dV kV doc pm : Value) (an : Option Addr) (cda cc : Addr) (ct : Value) (osl : Array (Option Value)) (ccl : Value) (cdd : Option Addr) (vs : Array Value) (ccs : Array (Option Value)) (file : Str) (tf : Tok) (cl : Value) (cld : Option Addr) (csl : Array (Option Value)),
    fd = ksFn name qual (defArgs st) (defBody st) (defScope st) dV kV doc pm an (.ref cda) ct cc ∧ K.lookup f = some ⟨oc, od, .func fd, osl⟩ ∧ codeIn K (.ref cda) qual = true ∧
    K.lookup cda = some ⟨ccl, cdd, .fields vs, ccs⟩ ∧ vs[2]? = some (.str file tf) ∧ ((P.main.file : Str) == file) = true ∧
    K.lookup cc = some ⟨cl, cld, .cell (some (.ref D)), csl⟩
/-- a class of the written part stands in the heap -/
theorem cls_at {K : Frag} {h : Heap} {D : Addr} {cd : ClassData} (X : K.In h) (hD : clsIn K D = some cd) : ∃ o, h.get? D = some o ∧ o.data = .cls cd := by
  cases hl : K.lookup D with
  | none => simp [clsIn, hl] at hD
  | some o =>
    refine ⟨o, X _ _ hl, ?_⟩
    obtain ⟨oc, od, data, sl⟩ := o
    cases data <;> simp_all [clsIn]
section
variable {prog : Program} {w : World} {A : Around} {E : Value → Shared → Prop} {s : Shared} {K : Frag} {mg mb : Str → Option Value} {x C D f cc cda L : Addr} {ox : Obj} {m : Str → Option Value}
theorem sup_node {body : List Stmt} {q : Str} {scope : Scope} {p0 p1 : Pos} {attr : Str} {whole : Sem Value} {fd : FuncData} {ar : Arg} {vs : Array Value} {file : Str} {tf : Tok} {oc ccl cl : Value} {od cdd cld : Option Addr} {osl ccs csl : Array (Option Value)} {cdD : ClassData} {Q : Value → Shared → Prop}
    (X : K.In s.heap) (hn : s.heap.Ns L m) (hg : s.heap.Ns mainGlobals mg) (hb : s.heap.Ns builtinsNs mb) (hmb : mb "super" = some (.type "super")) (hmg : mg "super" = none)
    (hf : K.lookup f = some ⟨oc, od, .func fd, osl⟩) (hp : (fd.params.posonlyargs ++ fd.params.args).head? = some ar) (hv : m ar.arg = some (.ref x)) (hx : s.heap.get? x = some ox) (hxc : ox.cls = .ref C) (hnc : ∀ c, ox.data ≠ .cls c)
    (hcode : K.lookup cda = some ⟨ccl, cdd, .fields vs, ccs⟩) (hvs : vs[2]? = some (.str file tf)) (hfile : ((prog.main.file : Str) == file) = true)
    (hcell : K.lookup cc = some ⟨cl, cld, .cell (some (.ref D)), csl⟩) (hD : clsIn K D = some cdD) (hsub : mroIn K C (.ref D) = some true)
    (hat : (attr == ("__class__" : Str)) = false) (hks : scope.names.lookup ("super" : Str) = some .globalImplicit) (hkc : scope.names.lookup ("__class__" : Str) = some .free) (hka : scope.names.lookup ar.arg = some .local) (hk : scope.kind = .function)
    (htop : (prog.main.scope.names.lookup ("super" : Str)).isSome = false)
    (h : ∀ h', h'.get? s.heap.objs.size = some (ks_superObj D x C) → (∀ b o, s.heap.get? b = some o → h'.get? b = some o) → Q (.ref s.heap.objs.size) { s with heap := h' }) :
    _root_.PySem.wpAt (model prog w) A (.func body (ksEnv q scope L f (.ref cda) cc)) (attributeBase (.Call (.Name "super" p0) [] [] p1) attr (ksEnv q scope L f (.ref cda) cc) whole) Q E s := by
  obtain ⟨oD, hD1, hD2⟩ := cls_at X hD
  refine ks_wpAt_super_base (env := ksEnv q scope L f (.ref cda) cc) hks hkc hat rfl (X _ _ hf) rfl hp rfl (X _ _ hcode) rfl hvs hfile htop ?_
  refine ks_loadName_global hk hks (loadGlobal_builtin (env := ksEnv q scope L f (.ref cda) cc) hg hmg hb hmb ⟨rfl, ?_⟩)
  refine wpAny_loadName_free hk hkc rfl ⟨_, X _ _ hcell, rfl⟩ ?_
  refine wpAny_loadName_local hk hka hn hv ?_
  refine ks_wpAny_isType_cls hD1 hD2 ⟨rfl, ?_⟩
  exact ks_wpAny_call_super hD1 hD2 hx hxc hnc (looks_mroIn X hsub) h
/-- super().__init__(..) called, the built-in one -/
theorem mw_call {u e t0 : Addr} {dv : Option Addr} {rest : List Value} {bmB : List Value} {B i newId : String} {Q : Value → Shared → Prop} (X : K.In s.heap) (FB : ExcBaseFacts B newId i bmB) (q : excInitIn K C bmB newId = true)
    (he : s.heap.get? e = some (excObj C t0 dv .none)) (hu : s.heap.get? u = some (kxs_mw i e)) (hz : rest.length ≤ sizeLine)
    (h : ∀ h' t1, (∀ b o, b ≠ e → s.heap.get? b = some o → h'.get? b = some o) → h'.get? e = some (excObj C t1 dv .none) → Q .none { s with heap := h' }) :
    wpAny (model prog w) A (call (.ref u) rest) Q E s := by
  obtain ⟨nm, N', qn, bs, bm, hdct, sn, sub, ab, col, dd, k0, k1, k2, k3, k5, hC, hT⟩ := excInit_of X q
  obtain ⟨hh, g, d, tk, os⟩ := s
  refine wpAny_call (codeAny_of_tree ?_)
  show wpAny _ A.in1 (callAny (.ref u) ⟨rest, []⟩) _ _ _
  simp only [callAny]
  refine wpAny_bind (wpAny_load hu ?_)
  simp only [kxs_mw, show (Value.type "method-wrapper" == Value.type "method" || Value.type "method-wrapper" == Value.type "builtin_function_or_method" || Value.type "method-wrapper" == Value.type "method-wrapper") = true by decide, if_true]
  refine KFB.if_so (by decide) ?_
  refine wpAny_bind (check_bound_init FB.toExcCallFacts hC he rfl ?_)
  refine wpAny_bind (wpAny_pure (wpAny_pure ?_))
  refine ⟨plainId_quiet FB.init.plain _, codeAny_builtin FB.initEntry ?_⟩
  exact exc_init_tree (cls := .ref C) (t0 := t0) (dv := dv) (c2 := .none) (c3 := .none) (b4 := .bool false) he hz fun h' k e' _ => h h' _ k e'
/-- a text's body as MetronetError.__init__ has it -/
def bodyE2 (p0 p1 p2 p3 p4 p5 r0 r1 r2 r3 u0 u1 u2 u3 : Pos) : List Stmt :=
  [.Expr (.Call (.Attribute (.Call (.Name "super" p0) [] [] p1) "__init__" p2) [.Name "place" p3] [] p4) p5, .Assign [.Attribute (.Name "self" r0) "place" r1] (.Name "place" r2) r3, .Assign [.Attribute (.Name "self" u0) "name" u1] (.Name "name" u2) u3]
def bodyE1 (nm : Str) (j : Nat) (p0 p1 p2 p3 p4 p5 p6 : Pos) : List Stmt :=
  [.Expr (.Call (.Attribute (.Call (.Name "super" p0) [] [] p1) "__init__" p2) [.Name "place" p3, .Constant (.str nm) j p4] [] p5) p6]
/-- a method's call as the model reads it -/
def McEq (o : Expr) (name : Str) (apos pos : Pos) (args : List Expr) : Prop := ∀ env : Env, eval (.Call (.Attribute o name apos) args [] pos) env = (do
  let ov ← attributeBase o name env (eval o env)
  standAt apos.atName
  let (f, first) ← holding [ov] (getMethod ov name (do return (← importBound o env).getD true))
  callWith pos f first (backTo pos (starEach args env)) [])
/-- what the classes must say: C the class of the exception, D the class of the def -/
structure ExcK (K : Frag) (C D : Addr) : Prop where
  ox : OexC K C
  ini : excInitIn K C [.type "ValueError", .type "Exception", .type "BaseException", .type "object"] "ValueError.__new__" = true
  sup : ks_superIn K C D "__init__" = some (some (.builtin "ValueError.__init__"))
  mro : mroIn K C (.ref D) = some true
  sub : subIn K (.ref C) (.type "ValueError") = some true
  cD : ∃ cd, clsIn K D = some cd
  cC : ∃ cd, clsIn K C = some cd
  op : nsIn K cStatics "thirdparty.any" = some none
  np : findIn K (.ref C) "place" = some none
  nn : findIn K (.ref C) "name" = some none
structure ScE (sc : Scope) (ns : List Str) : Prop where
  ks : sc.names.lookup ("super" : Str) = some .globalImplicit
  kc : sc.names.lookup ("__class__" : Str) = some .free
  loc : ∀ n ∈ ns, sc.names.lookup n = some .local
  kind : sc.kind = .function
  co : sc.isCoroutine = false
  gen : sc.isGenerator = false
  nocell : ∀ x ∈ sc.names, x.2 ≠ .cell
theorem x_ne_cls {h : Heap} {cd : ClassData} (X : K.In h) (hx : h.get? x = some ox) (hnc : ∀ c, ox.data ≠ .cls c) (hc : clsIn K C = some cd) : x ≠ C := fun z => by
  obtain ⟨o, e, q⟩ := cls_at X hc
  rw [← z, hx] at e
  exact hnc cd (Option.some.inj e ▸ q)
theorem mtr_code {name qual : Str} {st : Stmt} {fd : FuncData} {t0 : Addr} {pv nv : Value} {ar : Arg} {args : Args} {R : Result → Shared → Prop} {p0 p1 p2 p3 p4 p5 r0 r1 r2 r3 u0 u1 u2 u3 : Pos} (SF : SupF prog K name qual st f fd D) (EK : ExcK K C D) (hbody : defBody st = bodyE2 p0 p1 p2 p3 p4 p5 r0 r1 r2 r3 u0 u1 u2 u3) (hmc : McEq (.Call (.Name "super" p0) [] [] p1) "__init__" p2 p4 [.Name "place" p3])
    (sc : ScE (defScope st) ["self", "place", "name"]) (har : ((defArgs st).posonlyargs ++ (defArgs st).args).head? = some ar) (harn : ar.arg = "self") (hroom : A.depth < recursionLimit) (X : K.In s.heap) (hlim : s.heap.NoLimit)
    (hg : s.heap.Ns mainGlobals mg) (hb : s.heap.Ns builtinsNs mb) (hmb : mb "super" = some (.type "super")) (hmg : mg "super" = none) (htop : (prog.main.scope.names.lookup ("super" : Str)).isSome = false)
    (hbind : BindsTo s fd args [("self", .ref x), ("place", pv), ("name", nv)]) (hx : s.heap.get? x = some (excObj C t0 none .none)) (hxK : ∀ o, K.lookup x ≠ some o)
    (hR : ∀ h' tk dx t1, (∀ b o, b ≠ x → s.heap.get? b = some o → h'.get? b = some o) → s.heap.get? dx = none → dx ≠ x → h'.get? x = some (excObj C t1 (some dx) .none) → h'.Ns1 dx (fun y => if y = "name" then some nv else if y = "place" then some pv else none) → R (.ok (.ret .none)) { s with heap := h', toks := tk }) :
    codeAny (model prog w) A (.call (.ref f) args) R s := by
  obtain ⟨oc, od, dV, kV, doc, pm, an, cda, cc, ct, osl, ccl, cdd, vs, ccs, file, tf, cl, cld, csl, rfl, lk, hcd, hcode, hvs, hfile, hcell⟩ := SF.ex
  obtain ⟨cdD, hD⟩ := EK.cD
  obtain ⟨cdC, hC⟩ := EK.cC
  have sl := fun n h => sc.loc n h
  refine ks_codeAny_call_defAt hroom (X _ _ lk) rfl hlim (codeRec_of X hcd) rfl hbind sc.nocell (fun y hy => ?_) (fun h₀ hns k => ?_) sc.co sc.gen sc.kind
  · simp only [List.mem_cons, List.not_mem_nil, or_false] at hy
    rcases hy with rfl | rfl | rfl
    · exact sl _ (by simp)
    · exact sl _ (by simp)
    · exact sl _ (by simp)
  rw [hbody]
  have lx : x < s.heap.objs.size := Heap.lt_size hx
  have KX1 : K.In h₀ := X.keeps k
  have hint : interactive (ksEnv qual (defScope st) s.heap.objs.size f (.ref cda) cc) = false := by
    unfold interactive
    rw [show (ksEnv qual (defScope st) s.heap.objs.size f (.ref cda) cc).scope.kind = _ from sc.kind]
    rfl
  show _root_.PySem.wpAt (model prog w) (A.deeper (ksEnv qual (defScope st) s.heap.objs.size f (.ref cda) cc)) (.func _ (ksEnv qual (defScope st) s.heap.objs.size f (.ref cda) cc)) (execs _ (ksEnv qual (defScope st) s.heap.objs.size f (.ref cda) cc)) _ _ _
  refine ks_wpAt_execs_cons (ks_wpAt_Expr_any (ks_wpAt_MethodCall ?_ (hmc _)) hint)
  refine sup_node (ox := excObj C t0 none .none) (m := fun y => (List.reverse [((("self" : Str)), Value.ref x), ("place", pv), ("name", nv)]).lookup y) KX1 hns (hg.keeps k) (hb.keeps k) hmb hmg lk har (by rw [harn]; rfl) (k _ _ hx) rfl (fun c z => by cases z) hcode hvs hfile hcell hD EK.mro rfl sc.ks sc.kc (by rw [harn]; exact sl _ (by simp)) sc.kind htop fun h1 hso k1 => ?_
  have k01 : ∀ b o, s.heap.get? b = some o → h1.get? b = some o := fun b o e => k1 b o (k b o e)
  have KX2 : K.In h1 := X.keeps k01
  have hx1 := k01 _ _ hx
  have hsup := EK.sup
  unfold ks_superIn at hsup
  rw [hC] at hsup
  refine kxs_getMethod kxs_ValueError hso (looks_opaque KX2 EK.op) (l₀ := cdC.mro) (fun A Q E s k q => wpAny_bind ((looks_clsIn KX2 hC) A _ E s k (wpAny_pure q))) rfl KX2 hsup ?_ ?_ rfl ?_
  · exact (show InstAt h1 x (excObj C t0 none .none) C none from ⟨hx1, rfl, rfl, trivial⟩).type.andThen (looks_subIn KX2 EK.sub)
  · exact x_ne_cls KX2 hx1 (fun c z => by cases z) hC
  have k02 : ∀ b o, s.heap.get? b = some o → (h1.push (kxs_mw "ValueError.__init__" x)).get? b = some o := fun b o e => Heap.get?_push_of_some _ (k01 b o e)
  have hns2 : (h1.push (kxs_mw "ValueError.__init__" x)).Ns s.heap.objs.size (fun y => (List.reverse [((("self" : Str)), Value.ref x), ("place", pv), ("name", nv)]).lookup y) := hns.keeps fun b o e => Heap.get?_push_of_some _ (k1 b o e)
  have hu : (h1.push (kxs_mw "ValueError.__init__" x)).get? h1.objs.size = some (kxs_mw "ValueError.__init__" x) := Heap.get?_push_size _ rfl
  generalize h1.push (kxs_mw "ValueError.__init__" x) = h2 at k02 hns2 hu ⊢
  refine kxs_callWith (i := "ValueError.__init__") (x := x) rfl (evalArgs_plain (spliced_cons (wpAny_Name (wpAny_loadName_local sc.kind (sl "place" (by simp)) hns2 rfl (spliced_nil ⟨hu, ?_⟩)))))
  refine mw_call (X.keeps k02) F.excBase_ValueError EK.ini (k02 _ _ hx) hu (by show 1 ≤ sizeLine; rw [sizeLine_eq]; omega) fun h3 t1 k3 hx3 => ?_
  obtain ⟨nmc, qc, Nc, bsc, bmc, snc, subc, abc, colc, ddc, c0, c1, c2, c3, c5, hCo, hbm⟩ := EK.ox.cls
  have hcl : clsIn K C = some { name := nmc, bases := bsc, mro := .ref C :: bmc, ns := Nc, qualname := qc, hasDict := true, slotNames := snc, subclasses := subc, abstract := abc, collection := colc, hasDel := false } := by unfold clsIn; rw [hCo] <;> rfl
  have KX3 : K.In h3 := fun a o e => k3 a o (fun z => hxK o (z ▸ e)) (X.keeps k02 a o e)
  have hns3 : h3.Ns s.heap.objs.size (fun y => (List.reverse [((("self" : Str)), Value.ref x), ("place", pv), ("name", nv)]).lookup y) := by
    obtain ⟨oL, es, ep, hL, r⟩ := hns2
    exact ⟨oL, es, ep, k3 _ _ (Nat.ne_of_gt lx) hL, r⟩
  refine wpAt_of_wpAny (wpAny_execs_cons (plainObj_wpAny_Assign_Attribute (wpAny_Name (wpAny_loadName_local sc.kind (sl "place" (by simp)) hns3 rfl (wpAny_Name (wpAny_loadName_local sc.kind (sl "self" (by simp)) hns3 rfl ?_))))))
  refine set_plain KX3 (ox := excObj C t1 none .none) (od := none) ⟨hx3, rfl, rfl, trivial⟩ EK.ox.sa ?_
  refine PySem.HandSPX.exc_osa KX3 hx3 hcl (show PySem.HandSPX.refsVE (.ref C :: bmc) = true from hbm) rfl EK.np (fun h4 tk4 dx k4 dn dne hx4 hn4 => ?_)
  have n3 : h3.get? dx = none := by
    cases e : h3.get? dx with
    | none => rfl
    | some o => exact absurd (Heap.lt_size e) (Nat.not_lt.mpr dn)
  have KX4 : K.In h4 := fun a o e => k4 a o (fun z => hxK o (z ▸ e)) (KX3 a o e)
  have hns4 : h4.Ns s.heap.objs.size (fun y => (List.reverse [((("self" : Str)), Value.ref x), ("place", pv), ("name", nv)]).lookup y) := by
    obtain ⟨oL, es, ep, hL, r⟩ := hns3
    exact ⟨oL, es, ep, k4 _ _ (Nat.ne_of_gt lx) hL, r⟩
  refine wpAny_execs_cons (plainObj_wpAny_Assign_Attribute (wpAny_Name (wpAny_loadName_local sc.kind (sl "name" (by simp)) hns4 rfl (wpAny_Name (wpAny_loadName_local sc.kind (sl "self" (by simp)) hns4 rfl ?_)))))
  have hw : Within (fun y : Str => if y = "place" then some pv else none) ["place"] := fun y hy => by
    by_cases e : y = "place"
    · rw [e]; exact List.mem_singleton.mpr rfl
    · exact absurd (if_neg e) hy
  obtain ⟨oD, _, _, hoD, _, _⟩ := hn4.count hw
  refine set_plain KX4 (ox := excObj C t1 (some dx) .none) (od := some oD) ⟨hx4, rfl, rfl, hoD⟩ EK.ox.sa ?_
  refine PySem.OEX.osa_old KX4 hx4 hn4 hw (by decide) hcl (show PySem.HandSPX.refsVE (.ref C :: bmc) = true from hbm) rfl EK.nn (fun h5 tk5 k5 hn5 => ?_)
  refine wpAny_execs_nil ?_
  refine hR h5 tk5 dx t1 (fun b o hb e => ?_) ?_ dne ?_ hn5
  · refine k5 b o (fun z => ?_) (k4 b o hb (k3 b o hb (k02 b o e)))
    have := k3 b o hb (k02 b o e)
    rw [z, n3] at this
    cases this
  · cases e : s.heap.get? dx with
    | none => rfl
    | some o =>
      have := k3 dx o dne (k02 dx o e)
      rw [n3] at this
      cases this
  · exact k5 _ _ (Ne.symm dne) hx4
theorem inv_code {name qual name2 qual2 : Str} {st st2 : Stmt} {fd fd2 : FuncData} {f2 t0 : Addr} {pv : Value} {ar ar2 : Arg} {nm : Str} {j : Nat} {args : Args} {R : Result → Shared → Prop} {v0 v1 v2 v3 v4 v5 v6 p0 p1 p2 p3 p4 p5 r0 r1 r2 r3 u0 u1 u2 u3 : Pos}
    (SF : SupF prog K name qual st f fd C) (SF2 : SupF prog K name2 qual2 st2 f2 fd2 D) (EK : ExcK K C D) (hbody : defBody st = bodyE1 nm j v0 v1 v2 v3 v4 v5 v6) (hmc : McEq (.Call (.Name "super" v0) [] [] v1) "__init__" v2 v5 [.Name "place" v3, .Constant (.str nm) j v4])
    (hbody2 : defBody st2 = bodyE2 p0 p1 p2 p3 p4 p5 r0 r1 r2 r3 u0 u1 u2 u3) (hmc2 : McEq (.Call (.Name "super" p0) [] [] p1) "__init__" p2 p4 [.Name "place" p3])
    (sc : ScE (defScope st) ["self", "place"]) (sc2 : ScE (defScope st2) ["self", "place", "name"]) (har : ((defArgs st).posonlyargs ++ (defArgs st).args).head? = some ar) (harn : ar.arg = "self") (har2 : ((defArgs st2).posonlyargs ++ (defArgs st2).args).head? = some ar2) (harn2 : ar2.arg = "self")
    (hroom : A.depth + 5 < recursionLimit) (X : K.In s.heap) (hlim : s.heap.NoLimit)
    (hg : s.heap.Ns mainGlobals mg) (hb : s.heap.Ns builtinsNs mb) (hmb : mb "super" = some (.type "super")) (hmg : mg "super" = none) (htop : (prog.main.scope.names.lookup ("super" : Str)).isSome = false)
    (hsup : ks_superIn K C C "__init__" = some (some (.ref f2))) (hmro : mroIn K C (.ref C) = some true) (ht2 : typeIn K (.ref f2) = some (.type "function"))
    (hbind : BindsTo s fd args [("self", .ref x), ("place", pv)]) (hbind2 : ∀ (s' : Shared) (a b c : Value), K.In s'.heap → BindsTo s' fd2 ⟨[a, b, c], []⟩ [("self", a), ("place", b), ("name", c)])
    (hx : s.heap.get? x = some (excObj C t0 none .none)) (hxK : ∀ o, K.lookup x ≠ some o)
    (hR : ∀ h' tk dx t1 tok, (∀ b o, b ≠ x → s.heap.get? b = some o → h'.get? b = some o) → s.heap.get? dx = none → dx ≠ x → h'.get? x = some (excObj C t1 (some dx) .none) → h'.Ns1 dx (fun y => if y = "name" then some (.str nm tok) else if y = "place" then some pv else none) → R (.ok (.ret .none)) { s with heap := h', toks := tk }) :
    codeAny (model prog w) A (.call (.ref f) args) R s := by
  obtain ⟨oc, od, dV, kV, doc, pm, an, cda, cc, ct, osl, ccl, cdd, vs, ccs, file, tf, cl, cld, csl, rfl, lk, hcd, hcode, hvs, hfile, hcell⟩ := SF.ex
  obtain ⟨cdC, hC⟩ := EK.cC
  have sl := fun n h => sc.loc n h
  refine ks_codeAny_call_defAt (by omega) (X _ _ lk) rfl hlim (codeRec_of X hcd) rfl hbind sc.nocell (fun y hy => ?_) (fun h₀ hns k => ?_) sc.co sc.gen sc.kind
  · simp only [List.mem_cons, List.not_mem_nil, or_false] at hy
    rcases hy with rfl | rfl
    · exact sl _ (by simp)
    · exact sl _ (by simp)
  rw [hbody]
  have lx : x < s.heap.objs.size := Heap.lt_size hx
  have KX1 : K.In h₀ := X.keeps k
  have hint : interactive (ksEnv qual (defScope st) s.heap.objs.size f (.ref cda) cc) = false := by
    unfold interactive
    rw [show (ksEnv qual (defScope st) s.heap.objs.size f (.ref cda) cc).scope.kind = _ from sc.kind]
    rfl
  show _root_.PySem.wpAt (model prog w) (A.deeper (ksEnv qual (defScope st) s.heap.objs.size f (.ref cda) cc)) (.func _ (ksEnv qual (defScope st) s.heap.objs.size f (.ref cda) cc)) (execs _ (ksEnv qual (defScope st) s.heap.objs.size f (.ref cda) cc)) _ _ _
  refine ks_wpAt_execs_cons (ks_wpAt_Expr_any (ks_wpAt_MethodCall ?_ (hmc _)) hint)
  refine sup_node (D := C) (ox := excObj C t0 none .none) (m := fun y => (List.reverse [((("self" : Str)), Value.ref x), ("place", pv)]).lookup y) KX1 hns (hg.keeps k) (hb.keeps k) hmb hmg lk har (by rw [harn]; rfl) (k _ _ hx) rfl (fun c z => by cases z) hcode hvs hfile hcell hC hmro rfl sc.ks sc.kc (by rw [harn]; exact sl _ (by simp)) sc.kind htop fun h1 hso k1 => ?_
  have k01 : ∀ b o, s.heap.get? b = some o → h1.get? b = some o := fun b o e => k1 b o (k b o e)
  have KX2 : K.In h1 := X.keeps k01
  have hx1 := k01 _ _ hx
  obtain ⟨oc2, od2, dV2, kV2, doc2, pm2, an2, cda2, cc2, ct2, osl2, _, _, _, _, _, _, _, _, _, e2, lk2, _⟩ := SF2.ex
  have hsup' := hsup
  unfold ks_superIn at hsup'
  rw [hC] at hsup'
  have hfn : fnIn K f2 = true := by unfold fnIn; rw [lk2] <;> rfl
  have hoc : oc2 = .type "function" := by
    have : (K.lookup f2).map (·.cls) = some (.type "function") := ht2
    rw [lk2] at this
    exact Option.some.inj this
  refine ks_wpAny_getMethod_super (l₀ := cdC.mro) hso (looks_opaque KX2 EK.op) (fun A Q E s k q => wpAny_bind ((looks_clsIn KX2 hC) A _ E s k (wpAny_pure q))) rfl KX2 hsup' (KX2 _ _ lk2) hoc (x_ne_cls KX2 hx1 (fun c z => by cases z) hC) rfl ?_
  have k02 : ∀ b o, s.heap.get? b = some o → (h1.push { cls := .type "method", data := .fields #[.ref f2, .ref x] }).get? b = some o := fun b o e => Heap.get?_push_of_some _ (k01 b o e)
  have hns2 : (h1.push { cls := .type "method", data := .fields #[.ref f2, .ref x] }).Ns s.heap.objs.size (fun y => (List.reverse [((("self" : Str)), Value.ref x), ("place", pv)]).lookup y) := hns.keeps fun b o e => Heap.get?_push_of_some _ (k1 b o e)
  have hu : (h1.push { cls := .type "method", data := .fields #[.ref f2, .ref x] }).get? h1.objs.size = some { cls := .type "method", data := .fields #[.ref f2, .ref x] } := Heap.get?_push_size _ rfl
  generalize h1.push { cls := .type "method", data := .fields #[.ref f2, .ref x] } = h2 at k02 hns2 hu ⊢
  have KX3 : K.In h2 := X.keeps k02
  refine callWith_of (P := MethP K h1.objs.size f2 (.ref x)) rfl (keeps_M hfn) (evalArgs_plain (spliced_cons (wpAny_Name (wpAny_loadName_local sc.kind (sl "place" (by simp)) hns2 rfl (spliced_cons (wpAny_Constant_str (k := j) (pos := v4) (spliced_nil ⟨⟨hu, KX3⟩, ?_⟩)))))))
  refine wpAny_call (ks_codeAny_call_bound hu ?_)
  refine mtr_code (mg := mg) (mb := mb) (t0 := t0) (pv := pv) SF2 EK hbody2 hmc2 sc2 har2 harn2 (by show A.depth + 1 < _; omega) KX3 (hlim.keeps k02) (hg.keeps k02) (hb.keeps k02) hmb hmg htop (hbind2 _ _ _ _ KX3) (k02 _ _ hx) hxK fun h' tk dx t1 k3 n3 dne hx3 hn3 => ?_
  refine wpAt_of_wpAny (wpAny_execs_nil ?_)
  refine hR h' tk dx t1 _ (fun b o hb e => k3 b o hb (k02 b o e)) ?_ dne hx3 hn3
  cases e : s.heap.get? dx with
  | none => rfl
  | some o =>
    have := k02 dx o e
    rw [n3] at this
    cases this
end
end Vl
/-! Further rules: max(xs, default=d). -/
namespace Vl
open PySem PySem.Spec PyProof.Rows L2

/-- the greatest of some ints, or d -/
def maxOr (d : Int) : List Int → Int
  | [] => d
  | n :: ns => ns.foldl (fun a y => if decide (a < y) = true then y else a) n
theorem maxOr_foldl (ns : List Int) : ∀ n : Int, n ≤ ns.foldl (fun a y => if decide (a < y) = true then y else a) n ∧ (∀ y ∈ ns, y ≤ ns.foldl (fun a y => if decide (a < y) = true then y else a) n) ∧
    (ns.foldl (fun a y => if decide (a < y) = true then y else a) n = n ∨ ns.foldl (fun a y => if decide (a < y) = true then y else a) n ∈ ns) := by
  induction ns with
  | nil => intro n; exact ⟨Int.le_refl _, (fun _ h => nomatch h), .inl rfl⟩
  | cons m ns ih =>
    intro n
    rw [List.foldl_cons]
    by_cases h : n < m
    · rw [decide_eq_true h, if_pos rfl]
      obtain ⟨h1, h2, h3⟩ := ih m
      refine ⟨by omega, fun y hy => ?_, ?_⟩
      · rcases List.mem_cons.mp hy with rfl | hy
        · exact h1
        · exact h2 y hy
      · rcases h3 with h3 | h3
        · right; rw [h3]; exact List.mem_cons_self
        · right; exact List.mem_cons_of_mem _ h3
    · rw [decide_eq_false h, if_neg (by decide)]
      obtain ⟨h1, h2, h3⟩ := ih n
      refine ⟨h1, fun y hy => ?_, ?_⟩
      · rcases List.mem_cons.mp hy with rfl | hy
        · omega
        · exact h2 y hy
      · rcases h3 with h3 | h3
        · left; exact h3
        · right; exact List.mem_cons_of_mem _ h3
theorem maxOr_le {d : Int} {ns : List Int} {y : Int} (h : y ∈ ns) : y ≤ maxOr d ns := by
  cases ns with
  | nil => nomatch h
  | cons n ns =>
    obtain ⟨h1, h2, _⟩ := maxOr_foldl ns n
    rcases List.mem_cons.mp h with rfl | h
    · exact h1
    · exact h2 y h
theorem maxOr_mem {d : Int} {ns : List Int} (h : ns ≠ []) : maxOr d ns ∈ ns := by
  cases ns with
  | nil => exact absurd rfl h
  | cons n ns =>
    obtain ⟨_, _, h3⟩ := maxOr_foldl ns n
    rcases h3 with h3 | h3
    · show List.foldl _ n ns ∈ n :: ns
      rw [h3]; exact List.mem_cons_self
    · exact List.mem_cons_of_mem _ h3
def rMaxD (K : PySem.W.Frag) : List V → List V → Hp → VK → Prop := fun vs zs H Q => ∃ (a : Addr) (ns : List Int) (d : Int), vs = [.ref a] ∧ zs = [.int d] ∧ SqL K H a (ns.map V.int) ∧ Q (.int (maxOr d ns)) H
section
variable {X : Cx} {T : Tb}
theorem cr_maxD (hc : X.calm = true) (hu : X.A.units + 1 < cLine) : CallRK X (.builtin "max") [Str.ofString "default"] (rMaxD X.K) := by
  intro pins s σ H vs zs us ws Q I r rz h
  obtain ⟨a, ns, d, rfl, rfl, hs, q⟩ := h
  obtain rfl := Vals.ref1 r
  obtain ⟨w1, rfl, e1⟩ := vals1 rz
  obtain ⟨t, rfl⟩ := e1
  obtain ⟨its, rv, hl, hz⟩ := I.list hs
  refine PySem.W.max_list_datum_default (α := Int) (I.ok.hd hc) hl.isList (PySem.W.HoldAll.of_ints rv.ints) (by exact hu) (fun e h' tk k => ?_) (fun y ys i v h' tk e hi hv k => ?_)
  · subst e
    exact ⟨.int d, H, I.kept k, ⟨t, rfl⟩, q⟩
  · subst e
    obtain ⟨as, hr⟩ := hv
    have hr : Reads h' v (.int (PySem.W.maxOf y ys)) as := hr
    cases hr with
    | int _ t2 => exact ⟨.int _, H, I.kept k, ⟨t2, rfl⟩, q⟩
end
/-- max(e, default=d) -/
def aMaxD (a : AE) (d : Int) : AE := fun δ Q => a δ fun w => ∃ ns : List Int, lstC (argW w) = some (ns.map .int) ∧ Q (.cl (.int (maxOr d ns)))
section
variable {T : Tb} {X : Cx} {e : Expr} {x : AE} {p pos p2 kp : Pos} {d : Int} {j : Nat} {s : Str}
theorem e_maxD (hc : X.calm = true) (hu : X.A.units + 1 < cLine) (hTK : T.K = X.K) (hg : Gl X "max") (hm : X.mg "max" = none) (ha : PE X e (rdE T x)) (hs : starEach [e] X.env = (false, eval e X.env) :: starEach [] X.env := by rfl)
    (he : backTo pos (starEach [e] X.env) = (false, eval e X.env) :: backTo pos (starEach [] X.env) := by rfl) (hpl : (backTo pos (starEach [e] X.env)).any (·.1) = false := by rfl)
    (hall : (backToKw pos (keywordEach [⟨some "default", .Constant (.int d) j p2, kp⟩] X.env)).all (·.1.isSome) = true := by rfl) (hnone : (backToKw pos (keywordEach [⟨some "default", .Constant (.int d) j p2, kp⟩] X.env)).any (·.1.isNone) = false := by rfl)
    (hks : (backToKw pos (keywordEach [⟨some "default", .Constant (.int d) j p2, kp⟩] X.env)).filterMap (·.1) = [Str.ofString "default"] := by rfl) :
    PE X (.Call (.Name "max" p) [e] [⟨some "default", .Constant (.int d) j p2, kp⟩] pos) (rdE T (aMaxD x d)) := by
  refine (pe_callBK (cr_maxD hc hu) hg hm (by decide +kernel) (pa_cons ha pa_nil hs) (pk_cons pe_int pk_nil) (by decide) (by decide) he hpl hall hnone hks).mono fun σ H Q h => ?_
  obtain ⟨G, F, δ, P, R, h, k⟩ := h
  refine ⟨G, F, δ, _, R, h, fun w hw v F1 H1 g r => ?_⟩
  obtain ⟨ns, hn, q⟩ := hw
  obtain ⟨F2, g2, _, _, r2, _⟩ := RepW.arg g r
  obtain ⟨a, vs, rfl, hs, rr⟩ := r2.lst g2.ex hn
  rw [reps_ints rr] at hs
  exact ⟨a, ns, d, rfl, rfl, hTK ▸ hs, k _ q _ F2 H1 g2 (.int _)⟩
end
/-- max of one list of ints -/
def fMax1 : List W → (W → Prop) → Prop := one fun w Q => ∃ ns : List Int, lstC w = some (ns.map .int) ∧ 0 < ns.length ∧ ∀ m, m ∈ ns → (∀ y ∈ ns, y ≤ m) → Q (.cl (.int m))
theorem c_max1 {T : Tb} : CallV T (rMax T.K) fMax1 := by
  intro G F H F' H' xs ws P Q g r h k
  obtain ⟨x, w, rfl, rfl, rx, h⟩ := one_inv h r
  obtain ⟨ns, es, hne, q⟩ := h
  obtain ⟨p, vs, rfl, hs, rr⟩ := rx.lst g.ex es
  rw [reps_ints rr] at hs
  exact ⟨p, ns, rfl, hs, hne, fun m h1 h2 => k _ (q m h1 h2) _ _ _ g (.int _)⟩
theorem fMax1_eq (w : W) (Q : W → Prop) : fMax1 [w] Q = ∃ ns : List Int, lstC w = some (ns.map .int) ∧ 0 < ns.length ∧ ∀ m, m ∈ ns → (∀ y ∈ ns, y ≤ m) → Q (.cl (.int m)) := rfl
end Vl
/-! Own classes whose objects are made and read, never changed: fields, methods, C(..). -/
namespace Vl
open PySem PySem.Spec PyProof.Rows L2

theorem lookup_zip {β : Type} : ∀ {fs : List Str} {vs : List β} {j : Nat} {f : Str} {v : β}, fs.Nodup → fs[j]? = some f → vs[j]? = some v → (fs.zip vs).lookup f = some v
  | [], _, _, _, _, _, h, _ => by simp at h
  | _ :: _, [], _, _, _, _, _, h => by simp at h
  | g :: fs, w :: vs, 0, f, v, _, h1, h2 => by
    simp at h1 h2
    subst h1; subst h2
    simp [List.lookup]
  | g :: fs, w :: vs, j + 1, f, v, hn, h1, h2 => by
    have hf : f ∈ fs := List.mem_of_getElem? (by simpa using h1)
    have ne : (f == g) = false := beq_eq_false_iff_ne.mpr fun e => (List.nodup_cons.mp hn).1 (e ▸ hf)
    rw [List.zip_cons_cons, List.lookup_cons, ne]
    exact lookup_zip (List.nodup_cons.mp hn).2 (by simpa using h1) (by simpa using h2)
theorem lookup_zip_none {β : Type} : ∀ {fs : List Str} {vs : List β} {f : Str}, f ∉ fs → (fs.zip vs).lookup f = none
  | [], _, _, _ => rfl
  | _ :: _, [], _, _ => rfl
  | g :: fs, w :: vs, f, h => by
    have ne : (f == g) = false := beq_eq_false_iff_ne.mpr fun e => h (e ▸ List.mem_cons_self)
    rw [List.zip_cons_cons, List.lookup_cons, ne]
    exact lookup_zip_none fun q => h (List.mem_cons_of_mem _ q)
theorem putF_new {f : Str} {v : V} : ∀ {fs : List (Str × V)}, f ∉ fs.map (·.1) → putF f v fs = fs ++ [(f, v)]
  | [], _ => rfl
  | (g, x) :: r, h => by
    have ne : g ≠ f := fun e => h (by rw [e]; exact List.mem_cons_self)
    show (if g = f then (g, v) :: r else (g, x) :: putF f v r) = _
    rw [if_neg ne, putF_new fun q => h (List.mem_cons_of_mem _ q)]
    rfl
theorem putF_zip {fs : List Str} {vs : List V} {f : Str} {v : V} (hn : fs.Nodup) (hj : fs[vs.length]? = some f) : putF f v ((fs.take vs.length).zip vs) = (fs.take (vs ++ [v]).length).zip (vs ++ [v]) := by
  have hl : vs.length < fs.length := by
    apply Classical.byContradiction
    intro q
    rw [List.getElem?_eq_none_iff.mpr (by omega)] at hj
    cases hj
  have e1 : (vs ++ [v]).length = vs.length + 1 := by simp
  have e2 : fs.take (vs.length + 1) = fs.take vs.length ++ [f] := by rw [List.take_add_one, hj]; rfl
  have hlt : (fs.take vs.length).length = vs.length := by rw [List.length_take]; omega
  rw [e1, e2, List.zip_append hlt, putF_new]
  · rfl
  · rw [List.map_fst_zip (by omega)]
    intro q
    have h2 : (fs.take vs.length ++ [f]).Nodup := by rw [← e2]; exact List.Nodup.sublist (List.take_sublist _ _) hn
    rw [List.nodup_append] at h2
    exact h2.2.2 f q f (by simp) rfl

/-- a part of a borrowed, of an own tree, seen -/
def bwM : M → W
  | .cl d => .cl d
  | m => .bw m
def owM : M → W
  | .cl d => .cl d
  | m => .ow m
/-- e.f -/
def aFld (c j : Nat) (e : AE) : AE := fun δ Q => e δ fun w => match w with
  | .cl (.ins c' ds) => c' = c ∧ match ds[j]? with
    | some d => Q (.cl d)
    | none => False
  | .bw (.ti c' ms) => c' = c ∧ match ms[j]? with
    | some m => Q (bwM m)
    | none => False
  | .ow (.ti c' ms) => c' = c ∧ match ms[j]? with
    | some m => Q (owM m)
    | none => False
  | _ => False
/-- e.m(..) -/
def aMeth (c : Nat) (ct : Ct) (e : AE) (es : AA) : AE := fun δ Q => e δ fun w => match w with
  | .cl (.ins c' ds) => c' = c ∧ es δ fun ws => ct (.cl (.ins c' ds) :: ws) Q
  | .bw (.ti c' ms) => c' = c ∧ es δ fun ws => ct (.bw (.ti c' ms) :: ws) Q
  | .ow (.ti c' ms) => c' = c ∧ es δ fun ws => ct (.ow (.ti c' ms) :: ws) Q
  | _ => False
theorem Owns.at {T : Tb} {F H : Hp} : ∀ {vs : List V} {ms : List M} {A : List Addr} {j : Nat} {k : M}, Owns T F H vs ms A → ms[j]? = some k → ∃ u B, vs[j]? = some u ∧ Own T F H u k B ∧ ∀ a ∈ B, a ∈ A
  | _, _, _, _, _, .nil, h => by simp at h
  | _, _, _, 0, _, .cons o t d, h => by
    simp at h; subst h
    exact ⟨_, _, rfl, o, fun a q => List.mem_append_left _ q⟩
  | _, _, _, j + 1, _, .cons o t d, h => by
    obtain ⟨u, C, h1, h2, h3⟩ := Owns.at (j := j) t (by simpa using h)
    exact ⟨u, C, by simpa using h1, h2, fun a q => List.mem_append_right _ (h3 a q)⟩
theorem bwM_rep {T : Tb} {G : Gx} {Hs F H : Hp} {v : V} {m : M} {A : List Addr} (o : Own T F H v m A) (h : ∀ a ∈ A, a ∉ G.L ∧ G.H0 a ≠ none) : RepW T G Hs F H v (bwM m) := by
  cases m with
  | cl d => exact (own_clean o).1
  | fl _ => exact ⟨A, o, h⟩
  | fd _ _ _ => exact ⟨A, o, h⟩
  | tl _ => exact ⟨A, o, h⟩
  | td _ _ _ => exact ⟨A, o, h⟩
  | ti _ _ => exact ⟨A, o, h⟩
  | tp _ => exact ⟨A, o, h⟩
  | nd _ => exact ⟨A, o, h⟩
theorem owM_rep {T : Tb} {G : Gx} {Hs F H : Hp} {v : V} {m : M} {A : List Addr} (o : Own T F H v m A) : RepW T G Hs F H v (owM m) := by
  cases m with
  | cl d => exact (own_clean o).1
  | fl _ => exact ⟨A, o⟩
  | fd _ _ _ => exact ⟨A, o⟩
  | tl _ => exact ⟨A, o⟩
  | td _ _ _ => exact ⟨A, o⟩
  | ti _ _ => exact ⟨A, o⟩
  | tp _ => exact ⟨A, o⟩
  | nd _ => exact ⟨A, o⟩
/-- C(..) -/
abbrev Ini := List W → (List D → Prop) → Prop
def aMake (c : Nat) (ini : Ini) (es : AA) : AE := fun δ Q => es δ fun ws => ini ws fun ds => Q (.cl (.ins c ds))
/-- C(.., k = v) -/
def aMakeK (c n m : Nat) (ini : Ini) (es ks : AA) : AE := fun δ Q => es δ fun ws => ks δ fun zs => (ws.length = n ∧ zs.length = m) ∧ ini (ws ++ zs) fun ds => Q (.cl (.ins c ds))
/-- an argument of __init__: it stands apart from the object that is made -/
def ArgX (T : Tb) (F H : Hp) (x : Addr) (v : V) : W → Prop
  | .cl d => Rep T F v d
  | .bw m => ∃ A, Own T F H v m A ∧ x ∉ A
  | .ow m => ∃ A, Own T F H v m A ∧ x ∉ A
  | .fr _ => False
def ArgsX (T : Tb) (F H : Hp) (x : Addr) (us : List V) (ws : List W) : Prop := us.length = ws.length ∧ ∀ (i : Nat) (w : W), ws[i]? = some w → ∃ v, us[i]? = some v ∧ ArgX T F H x v w
/-- what __init__ promises -/
def spI (T : Tb) (c : Nat) (ini : Ini) : Sp := fun vs H Q _ => ∃ (F : Hp) (x dx : Addr) (us : List V) (ws : List W) (P : List D → Prop), vs = .ref x :: us ∧ H x = some (.ins (T.cl c) dx []) ∧ F x = none ∧ Same F H ∧ ArgsX T F H x us ws ∧ ini ws P ∧
  ∀ ds, P ds → ∀ F' H' vs', (∀ b o, b ≠ x → H b = some o → H' b = some o) → Same F F' → Same F' H' → (∀ a, H a ≠ none → NT H' a → F' a = F a) → H' x = some (.ins (T.cl c) dx ((T.fs c).zip vs')) → (T.fs c).length = vs'.length → Reps T F' vs' ds → Q .non H'
section
variable {T : Tb} {X : Cx} {e : Expr} {es : List Expr} {x : AE} {xs : AA} {pos p apos : Pos} {c j : Nat} {f m : Str}
theorem e_fld (hTK : T.K = X.K) (hC : Cls X.K (T.cl c)) (hn : NoAttr X.K (T.cl c) f) (hd : (T.fs c).Nodup) (hj : (T.fs c)[j]? = some f) (he : PE X e (rdE T x)) (hb : attributeBase e f X.env (eval e X.env) = eval e X.env := by rfl) :
    PE X (.Attribute e f pos) (rdE T (aFld c j x)) := (pe_fld he hb).mono fun σ H Q h => by
  obtain ⟨G, F, δ, P, R, h, k⟩ := h
  refine ⟨G, F, δ, _, R, h, fun w hw v F1 H1 g r => ?_⟩
  split at hw
  · rename_i c' ds
    obtain ⟨rfl, hw⟩ := hw
    split at hw
    · rename_i d hd2
      obtain ⟨a, dx, vs, rfl, ha, hl, rr⟩ := rep_ins r
      obtain ⟨v, hv, rv⟩ := rr.getD hd2
      exact ⟨a, _, dx, _, v, rfl, g.ex _ _ ha, hC, hn, lookup_zip hd hj hv, k _ hw v F1 H1 g rv⟩
    · exact hw.elim
  · rename_i c' ms
    obtain ⟨rfl, hw⟩ := hw
    split at hw
    · rename_i m hm
      obtain ⟨A, o, hA⟩ := r
      obtain ⟨a, dx, vs, B, rfl, rfl, ha, _, hl, _, t⟩ := own_ti o
      obtain ⟨u, C, hv, ou, hC2⟩ := t.at hm
      exact ⟨a, _, dx, _, u, rfl, ha, hC, hn, lookup_zip hd hj hv, k _ hw u F1 H1 g (bwM_rep ou fun x q => hA x (List.mem_cons_of_mem _ (hC2 x q)))⟩
    · exact hw.elim
  · rename_i c' ms
    obtain ⟨rfl, hw⟩ := hw
    split at hw
    · rename_i m hm
      obtain ⟨A, o⟩ := r
      obtain ⟨a, dx, vs, B, rfl, rfl, ha, _, hl, _, t⟩ := own_ti o
      obtain ⟨u, C, hv, ou, hC2⟩ := t.at hm
      exact ⟨a, _, dx, _, u, rfl, ha, hC, hn, lookup_zip hd hj hv, k _ hw u F1 H1 g (owM_rep ou)⟩
    · exact hw.elim
  · exact hw.elim
variable {k n : Nat} {fa : Addr} {fd : FuncData} {ps : List Str} {ct : Ct} {ini : Ini}
theorem e_meth {pl : Sem Bool} (hC : Cls X.K (T.cl c)) (hm : Meth X.K (T.cl c) m fa) (Fn : FnOk X.prog X.w X.K X.mg X.base CX0 k fa fd ps (spC T ct)) (hr : Room k X.A) (hb : Binds X.K fd ps []) (hno : m ∉ T.fs c) {o : Expr} {a : Expr} (ho : PE X o (rdE T x)) (ha : PA X (a :: es) (rdA T xs))
    (hst : starEach (a :: es) X.env = (false, eval a X.env) :: starEach es X.env := by rfl) (hpl : (backTo pos (starEach es X.env)).any (·.1) = false := by rfl)
    (ht : eval (.Call (.Attribute o m apos) (a :: es) [] pos) X.env = (do
      let ov ← eval o X.env
      standAt apos.atName
      let (f, first) ← holding [ov] (getMethod ov m pl)
      callWith pos f first (backTo pos (starEach (a :: es) X.env)) (backToKw pos (keywordEach [] X.env))) := by rfl) :
    PE X (.Call (.Attribute o m apos) (a :: es) [] pos) (rdE T (aMeth c ct x xs)) :=
  (pe_meth (E := E0) ho hC hm Fn hr hb .nil pass0 ha hst hpl ht).mono fun σ H Q h => by
    obtain ⟨G, F, δ, P, R, h, kk⟩ := h
    refine ⟨G, F, δ, _, R, h, fun w hw v F1 H1 g r => ?_⟩
    have fin : ∀ {w0 : W} {a dx : Addr} {vs : List V} {c' : Nat}, v = .ref a → c' = c → H1 a = some (.ins (T.cl c') dx ((T.fs c').zip vs)) → RepA T G F1 H1 (.ref a) w0 → (xs δ fun ws => ct (w0 :: ws) P) → tMeth (T.cl c) m (spC T ct) [] E0 (fun σ H Q => Q v H1) (rdA T xs) σ H1 Q := by
      rintro w0 a dx vs c' rfl rfl ha ra hw
      refine ⟨a, dx, _, rfl, ha, lookup_zip_none hno, ?_⟩
      refine ⟨G, F1, δ, _, R.go g, hw, fun ws hws us F2 H2 g2 r2 => ?_⟩
      show spC T ct (.ref a :: (us ++ [])) H2 Q _
      rw [List.append_nil]
      exact ⟨G, F2, w0 :: ws, P, g2.ex, .cons (ra.go g2) r2, hws, fun w hP v F3 H3 g3 r3 => kk w hP v F3 H3 ((g.trans g2).trans g3) ((RepR.toW r3).back (g.h.trans g2.h))⟩
    split at hw
    · rename_i c' ds
      obtain ⟨e1, hw⟩ := hw
      obtain ⟨a, dx, vs, rfl, ha, hl, rr⟩ := rep_ins r
      exact fin (w0 := .cl (.ins c' ds)) rfl e1 (g.ex _ _ ha) r hw
    · rename_i c' ms
      obtain ⟨e1, hw⟩ := hw
      obtain ⟨A, o, hA⟩ := r
      obtain ⟨a, dx, vs, B, rfl, rfl, ha, _⟩ := own_ti o
      exact fin (w0 := .bw (.ti c' ms)) rfl e1 ha ⟨_, o, hA⟩ hw
    · rename_i c' ms
      obtain ⟨e1, hw⟩ := hw
      obtain ⟨A, o⟩ := r
      obtain ⟨a, dx, vs, B, rfl, rfl, ha, _⟩ := own_ti o
      exact fin (w0 := .ow (.ti c' ms)) rfl e1 ha ⟨_, o⟩ hw
    · exact hw.elim
theorem argsX_of {G : Gx} {F H F' H' : Hp} {us : List V} {ws : List W} {x : Addr} (g : Go F H F' H') (hx : H x = none) (r : RepAs T G F H us ws) : ArgsX T F' H' x us ws := by
  refine ⟨r.length, fun i w hw => ?_⟩
  obtain ⟨v, hv, rv⟩ := r.get hw
  refine ⟨v, hv, ?_⟩
  cases w with
  | cl d => exact Rep.mono g.f rv
  | bw m => obtain ⟨A, o, _⟩ := rv; exact ⟨A, o.go g, fun q => (o.mem x q).1 hx⟩
  | ow m => obtain ⟨A, o⟩ := rv; exact ⟨A, o.go g, fun q => (o.mem x q).1 hx⟩
  | fr m => exact rv.elim
theorem rd_made {G : Gx} {F H F1 H1 : Hp} {us : List V} {ws : List W} {Q : VK} {P : W → Prop} {E : XK} (g : Go F H F1 H1) (r : RepAs T G F1 H1 us ws) (hw : ini ws fun ds => P (.cl (.ins c ds)))
    (kk : ∀ w, P w → ∀ v F' H', Go F H F' H' → RepW T G H F' H' v w → Q v H') (x dx : Addr) (hx : H1 x = none) (hdx : H1 dx = none) (ne : dx ≠ x) :
    spI T c ini (.ref x :: us) (upd (upd H1 dx (.own x)) x (.ins (T.cl c) dx [])) (fun v H2 => v = .non ∧ Q (.ref x) H2) E := by
  have hx2 : (upd H1 dx (.own x)) x = none := by rw [upd_ne ne.symm]; exact hx
  have g1 : Go F1 H1 F1 (upd (upd H1 dx (.own x)) x (.ins (T.cl c) dx [])) := ((Go.refl g.ex).lay hdx).lay hx2
  have fx : F1 x = none := g.ex.free hx
  refine ⟨F1, x, dx, us, ws, _, rfl, upd_same, fx, g1.ex, argsX_of g1 hx r, hw, fun ds hds F' H' vs' q1 q2 q3 q4 q5 q6 q7 => ⟨rfl, ?_⟩⟩
  have fx' : F' x = none := by rw [q4 x (by rw [upd_same]; simp) (nt_of q5)]; exact fx
  have h1 : Same H H' := fun b o e => q1 b o (ne_of_none (g.h _ _ e) hx) (g1.h _ _ (g.h _ _ e))
  refine kk _ hds _ (upd F' x (.ins (T.cl c) dx ((T.fs c).zip vs'))) H' ⟨h1, fun b o e => ?_, fun b o e => ?_, fun a ha => ?_⟩ (.ins upd_same q6 (q7.mono (Same.updN fx')))
  · have := g.f _ _ e
    rw [upd_ne (ne_of_none this fx)]
    exact q2 _ _ this
  · by_cases hb : b = x
    · subst hb
      rw [upd_same] at e
      rw [← e]; exact q5
    · rw [upd_ne hb] at e
      exact q3 _ _ e
  · have ha1 : H1 a ≠ none := Same.nn g.h ha
    have : a ≠ x := fun z => ha1 (z ▸ hx)
    intro na
    rw [upd_ne this, q4 a (Same.nn g1.h ha1) (Same.nt h1 ha na)]
    exact g.n a ha na
theorem e_make (M : Mk X.K (T.cl c) fa) (Fn : FnOk X.prog X.w X.K X.mg X.base CX0 k fa fd ps (spI T c ini)) (hr : Room (k + 1) X.A) (hg : Gl X f) (hm : X.mg f = some (.ref (T.cl c))) (hb : Binds X.K fd ps []) (ha : PA X (e :: es) (rdA T xs))
    (hdb : (f == ("__debug__" : Str)) = false := by decide) (he : starEach (e :: es) X.env = (false, eval e X.env) :: starEach es X.env := by rfl) (hpl : (backTo pos (starEach es X.env)).any (·.1) = false := by rfl) :
    PE X (.Call (.Name f p) (e :: es) [] pos) (rdE T (aMake c ini xs)) :=
  (pe_make (E := E0) M Fn hr hg hm hb .nil pass0 ha hdb he hpl).mono fun σ H Q h => by
    obtain ⟨G, F, δ, P, R, h, kk⟩ := h
    refine ⟨G, F, δ, _, R, h, fun ws hw us F1 H1 g r x dx hx hdx ne => ?_⟩
    rw [List.append_nil]
    exact rd_made g r hw kk x dx hx hdx ne
theorem RepAs.append {G : Gx} {F H : Hp} : ∀ {us vs : List V} {ws zs : List W}, RepAs T G F H us ws → RepAs T G F H vs zs → RepAs T G F H (us ++ vs) (ws ++ zs)
  | _, _, _, _, .nil, s => s
  | _, _, _, _, .cons r t, s => .cons r (RepAs.append t s)
variable {ks : List Str} {kws : List Keyword} {zs : AA} {g : List Value → List Value → List Value}
theorem k_cons {nm : Option Str} {kpos : Pos} (ha : PE X e (rdE T x)) (hr : PK X kws (rdA T zs)) : PK X (⟨nm, e, kpos⟩ :: kws) (rdA T (aCons x zs)) := ⟨fun pos pins s σ H Q I h => (pk_cons ha hr).run pos pins s σ H Q I (by
  obtain ⟨G, F, δ, P, R, h, k⟩ := h
  refine ⟨G, F, δ, _, R, h, fun w hw v F1 H1 g r => ?_⟩
  obtain ⟨F2, g2, _, _, r2, _⟩ := RepW.arg g r
  refine ⟨G, F2, δ, _, R.go g2, hw, fun ws hws vs F3 H3 g3 r3 => ?_⟩
  exact k _ hws (v :: vs) F3 H3 (g2.trans g3) (.cons (r2.toA.go g3) r3))⟩
theorem k_nil : PK X [] (rdA T aNil) := ⟨fun pos pins s σ H Q I h => pk_nil.run pos pins s σ H Q I (by
  obtain ⟨G, F, δ, P, R, h, k⟩ := h
  exact k _ h [] F H (Go.refl R.ex) .nil)⟩
theorem e_makeK (M : Mk X.K (T.cl c) fa) (Fn : FnOk X.prog X.w X.K X.mg X.base CX0 k fa fd ps (spI T c ini)) (hr : Room (k + 1) X.A) (hg : Gl X f) (hm : X.mg f = some (.ref (T.cl c))) (hb : KBn X.K fd ps (n + 1) ks g (fun vs zs => vs ++ zs)) (ha : PA X (e :: es) (rdA T xs)) (hkw : PK X kws (rdA T zs))
    (hall : (backToKw pos (keywordEach kws X.env)).all (·.1.isSome) = true := by rfl) (hks : (backToKw pos (keywordEach kws X.env)).filterMap (·.1) = ks := by rfl) (hdb : (f == ("__debug__" : Str)) = false := by decide)
    (he : starEach (e :: es) X.env = (false, eval e X.env) :: starEach es X.env := by rfl) (hpl : ((backTo pos (starEach (e :: es) X.env)).any (·.1) || (backToKw pos (keywordEach kws X.env)).any (·.1.isNone)) = false := by rfl) :
    PE X (.Call (.Name f p) (e :: es) kws pos) (rdE T (aMakeK c n ks.length ini xs zs)) :=
  (pe_makeK (E := E0) M Fn hr hg hm hb pass0 ha hkw hall hks hdb he hpl).mono fun σ H Q h => by
    obtain ⟨G, F, δ, P, R, h, kk⟩ := h
    refine ⟨G, F, δ, _, R, h, fun ws hw us F1 H1 g r => ⟨G, F1, δ, _, R.go g, hw, fun zs hz vs F2 H2 g2 r2 => ?_⟩⟩
    obtain ⟨⟨l1, l2⟩, hz⟩ := hz
    refine ⟨r.length.trans l1, r2.length.trans l2, fun x dx hx hdx ne => ?_⟩
    exact rd_made (g.trans g2) ((r.go g2).append r2) hz kk x dx hx hdx ne
end

/-! ### __init__ -/
structure IniS (T : Tb) (c : Nat) (G : Gx) (F H : Hp) (σ : L2.St) (δ : List AV) (x dx : Addr) (vs : List V) (ds : List D) : Prop where
  R : RepS T G F H σ δ
  L : G.L = [x]
  g0 : σ[0]? = some (some (.ref x))
  ob : H x = some (.ins (T.cl c) dx (((T.fs c).take vs.length).zip vs))
  ln : vs.length ≤ (T.fs c).length
  sm : (T.fs c).length < 1000
  fx : F x = none
  rp : Reps T F vs ds
  ns : ∀ i l m v A, gt δ i = .ow l m → gs σ i = some v → Own T F H v m A → x ∉ A
abbrev AF := List AV → List D → (List D → Prop) → Prop
def rdF (T : Tb) (c : Nat) (a : AF) : TS := fun D σ H => ∃ G F δ x dx vs ds P, IniS T c G F H σ δ x dx vs ds ∧ a δ ds P ∧ ∀ ds', P ds' → ∀ F' H' vs', Same F F' → IniS T c G F' H' σ δ x dx vs' ds' → D.nx σ H'
def aF (n : Nat) (x : AE) : AF := fun δ ds P => ds.length = n ∧ x δ fun w => match clW w with
  | some d => P (ds ++ [d])
  | none => False
def aFs (a b : AF) : AF := fun δ ds P => a δ ds fun ds' => b δ ds' P
section
variable {T : Tb} {X : Cx} {e : Expr} {st : Stmt} {rest : List Stmt} {x : AE} {pos p1 p2 : Pos} {c n : Nat} {f s : Str} {a b : AF}
theorem i_fld (hTK : T.K = X.K) (hC : Cls X.K (T.cl c)) (hn : NoAttr X.K (T.cl c) f) (hd : (T.fs c).Nodup) (hj : (T.fs c)[n]? = some f) (hN : X.N[0]? = some s) (he : PE X e (rdE T x)) (hs : swapsWith e (some (.Attribute (.Name s p1) f p2)) pos.line X.env = pure false := by rfl)
    (hv : Vis X.env.scope s := by first | exact Or.inl rfl | exact Or.inr (Or.inl rfl) | exact Or.inr (Or.inr rfl)) (hdd : (s == ("__debug__" : Str)) = false := by decide) (hcd : (s == ("__classdict__" : Str)) = false := by decide) : PS X (.Assign [.Attribute (.Name s p1) f p2] e pos) (rdF T c (aF n x)) :=
  (ps_fld (pe_var hN hv hdd hcd) he hs).mono fun D σ H h => by
    obtain ⟨G, F, δ, x, dx, vs, ds, P, S, ⟨hl, h⟩, k⟩ := h
    refine ⟨G, F, δ, _, S.R, h, fun w hw v F1 H1 g r => ?_⟩
    split at hw
    · rename_i d hd2
      obtain ⟨F2, g2, r2⟩ := clW_rep g r hd2
      have hob := g2.h _ _ S.ob
      have hvl : vs.length = n := S.rp.length.trans hl
      refine ⟨_, S.g0, x, _, dx, _, rfl, hob, hC, hn, ?_, ?_⟩
      · rw [List.length_zip, List.length_take]
        have := S.sm
        have := S.ln
        omega
      · have hfx : F2 x = none := by rw [g2.n x (by rw [S.ob]; simp) (nt_of S.ob)]; exact S.fx
        rw [putF_zip hd (by rw [hvl]; exact hj)]
        have R2 := S.R.go g2
        have hlt : vs.length < (T.fs c).length := by
          apply Classical.byContradiction
          intro q
          rw [List.getElem?_eq_none_iff.mpr (by omega)] at hj
          cases hj
        have ns2 : ∀ i l m v A, gt δ i = .ow l m → gs σ i = some v → Own T F2 H1 v m A → x ∉ A := fun i l m v A e1 e2 o => by
          obtain ⟨v', A', q1, q2, _⟩ := S.R.own e1
          rw [e2] at q1; cases q1
          cases Own.det o (q2.go g2)
          exact S.ns i l m _ _ e1 e2 q2
        have hn : ∀ {w m A}, Own T F2 H1 w m A → x ∉ A → Own T F2 (upd H1 x (.ins (T.cl c) dx (((T.fs c).take (vs ++ [v]).length).zip (vs ++ [v])))) w m A := fun {w m A} o hx => o.keep (Same.refl _) (fun a q => upd_ne fun z => hx (z ▸ q)) fun a q => (o.mem a q).2
        refine k _ hw F2 _ (vs ++ [v]) g2.f ⟨⟨?_, ?_, ?_, R2.lh, R2.f0, (fun a h l n => R2.fn a h l (n.upd (nt_of hob))), R2.len, ?_, ?_⟩, S.L, S.g0, upd_same, by rw [List.length_append, List.length_singleton]; omega, S.sm, hfx, (S.rp.mono g2.f).snoc r2, ?_⟩
        · intro q o e
          rw [upd_ne (ne_of_none e hfx)]; exact R2.ex _ _ e
        · intro q o e hq
          have : q ≠ x := fun z => hq (by rw [S.L, z]; exact List.mem_cons_self)
          rw [upd_ne this]; exact R2.fr q o e hq
        · intro q hq z
          by_cases e : q = x
          · rw [e, upd_same] at z; cases z
          · rw [upd_ne e] at z; exact R2.th q hq z
        · intro i
          have q := R2.sl i
          revert q
          generalize hg : gt δ i = av
          intro q
          cases av with
          | non => trivial
          | im d => exact q
          | bw m =>
            obtain ⟨w, A, e1, o, hA⟩ := q
            exact ⟨w, A, e1, hn o fun z => (hA x z).1 (by rw [S.L]; exact List.mem_cons_self), hA⟩
          | ow l m =>
            obtain ⟨w, A, e1, o, hA⟩ := q
            exact ⟨w, A, e1, hn o (ns2 i l m w A hg e1 o), hA⟩
        · intro i j l l' m m' u w A B ne e1 e2 e3 e4 o1 o2
          obtain ⟨u', A', q1, q2, _⟩ := R2.own e1
          obtain ⟨w', B', q3, q4, _⟩ := R2.own e2
          rw [e3] at q1; cases q1
          rw [e4] at q3; cases q3
          cases Own.det o1 (hn q2 (ns2 _ _ _ _ _ e1 e3 q2))
          cases Own.det o2 (hn q4 (ns2 _ _ _ _ _ e2 e4 q4))
          exact R2.dj i j l l' m m' _ _ _ _ ne e1 e2 e3 e4 q2 q4
        · intro i l m u A e1 e2 o
          obtain ⟨u', A', q1, q2, _⟩ := R2.own e1
          rw [e2] at q1; cases q1
          cases Own.det o (hn q2 (ns2 _ _ _ _ _ e1 e2 q2))
          exact ns2 _ _ _ _ _ e1 e2 q2
    · exact hw.elim
theorem i_one (h1 : PS X st (rdF T c a)) : PSs X [st] (rdF T c a) := pss_one h1
theorem i_cons (h1 : PS X st (rdF T c a)) (h2 : PSs X rest (rdF T c b)) : PSs X (st :: rest) (rdF T c (aFs a b)) := (pss_cons h1 h2).mono fun D σ H h => by
  obtain ⟨G, F, δ, x, dx, vs, ds, P, S, h, k⟩ := h
  exact ⟨G, F, δ, x, dx, vs, ds, _, S, h, fun ds' q F' H' vs' s S' => ⟨G, F', δ, x, dx, vs', ds', P, S', q, fun ds2 q2 F2 H2 vs2 s2 S2 => k ds2 q2 F2 H2 vs2 (s.trans s2) S2⟩⟩
end
theorem repS_ini {T : Tb} {F H : Hp} {x dx : Addr} {C : Addr} {vs : List V} {ws : List W} (sm : Same F H) (r : ArgsX T F H x vs ws) (hx : H x = some (.ins C dx [])) (Nm : List Str) (hNm : Nm.length = vs.length + 1) : RepS T ⟨H, F, [x], .non⟩ F H (L2.start Nm (.ref x :: vs)) (.non :: ws.map avOf) := by
  have hl := r.1
  have hst : ∀ i, gs (L2.start Nm (.ref x :: vs)) (i + 1) = vs[i]? := fun i => by
    unfold gs L2.start
    rw [List.getD_eq_getElem?_getD]
    by_cases hi : i < vs.length
    · rw [List.getElem?_append_left (by simpa using hi), List.getElem?_map, List.getElem?_cons_succ]
      cases vs[i]? <;> rfl
    · rw [List.getElem?_append_right (by simpa using hi), List.getElem?_replicate, List.getElem?_eq_none_iff.mpr (by omega)]
      split <;> rfl
  have hgt : ∀ i, gt (AV.non :: ws.map avOf) (i + 1) = ((ws[i]?).map avOf).getD .non := fun i => by
    unfold gt
    rw [List.getD_eq_getElem?_getD, List.getElem?_cons_succ, List.getElem?_map]
  refine ⟨sm, fun a o h _ => h, fun a h => h, fun a h => by rw [List.mem_singleton.mp h]; show H x ≠ none; rw [hx]; simp, Same.refl _, fun a _ _ _ => rfl, ?_, fun i => ?_, fun i j l l' m m' u w A B ne e1 => ?_⟩
  · unfold L2.start
    simp [hl, hNm]
  · cases i with
    | zero => trivial
    | succ i =>
      rw [hst, hgt]
      cases e : ws[i]? with
      | none => trivial
      | some w =>
        obtain ⟨v, hv, rv⟩ := r.2 i w e
        rw [hv]
        cases w with
        | cl d => exact ⟨v, rfl, rv⟩
        | bw m =>
          obtain ⟨A, o, hA⟩ := rv
          exact ⟨v, A, rfl, o, fun a q => ⟨fun z => hA (List.mem_singleton.mp z ▸ q), (o.mem a q).1⟩⟩
        | ow m =>
          obtain ⟨A, o, hA⟩ := rv
          exact ⟨v, A, rfl, o, fun a q => ⟨fun z => hA (List.mem_singleton.mp z ▸ q), (o.mem a q).1⟩⟩
        | fr m => exact rv.elim
  · cases i with
    | zero => cases e1
    | succ i =>
      rw [hgt] at e1
      cases e : ws[i]? with
      | none => rw [e] at e1; cases e1
      | some w => rw [e] at e1; cases w <;> cases e1
section
variable {T : Tb} {P : Program} {wd : World} {K : PySem.W.Frag} {mg : Str → Option Value} {base : Heap} {f : Addr} {fd : FuncData} {k c : Nat} {ini : Ini} {a : AF}
theorem ini_read {H : Hp} {vs : List V} {Q : VK} {E : XK} {N : List Str} (len : ∀ ws P, ini ws P → ws.length + 1 = N.length) (hsm : (T.fs c).length < 1000) (hw : ∀ ws P, ini ws P → a (.non :: ws.map avOf) [] fun ds => ds.length = (T.fs c).length ∧ P ds) (h : spI T c ini vs H Q E) :
    vs.length = N.length ∧ rdF T c a { nx := fun _ H' => Q .non H', rt := Q } (L2.start N vs) H := by
  obtain ⟨F, x, dx, us, ws, P, rfl, hx, fx, sm, r, hi, kk⟩ := h
  have hN : N.length = us.length + 1 := by rw [r.1, len ws P hi]
  refine ⟨by rw [hN]; rfl, _, F, _, x, dx, [], [], _, ⟨repS_ini sm r hx N hN, rfl, ?_, ?_, Nat.zero_le _, hsm, fx, .nil, fun i l m v A e => ?_⟩, hw ws P hi, fun ds ⟨hl, hP⟩ F' H' vs' s S => ?_⟩
  · unfold L2.start
    rfl
  · rw [hx]; rfl
  · cases i with
    | zero => cases e
    | succ i =>
      unfold gt at e
      rw [List.getD_eq_getElem?_getD, List.getElem?_cons_succ, List.getElem?_map] at e
      cases e2 : ws[i]? with
      | none => rw [e2] at e; cases e
      | some w => rw [e2] at e; cases w <;> cases e
  · have hvl : vs'.length = (T.fs c).length := S.rp.length.trans hl
    have ho := S.ob
    rw [hvl, List.take_length] at ho
    exact kk ds hP F' H' vs' (fun b o hb e => S.R.fr b o e (by simpa using hb)) s S.R.ex (fun a h n => by
      by_cases q : a = x
      · subst q; exact S.fx.trans fx.symm
      · exact S.R.fn a h (fun z => q (List.mem_singleton.mp z)) n) ho hvl.symm S.rp
theorem fn_ini {y qual : Str} {st : Stmt} {N : List Str} (Fn : Fun K y qual st f fd) (S : FnScope N N (defScope st)) (len : ∀ ws P, ini ws P → ws.length + 1 = N.length) (hsm : (T.fs c).length < 1000)
    (hd : ∀ (cdv : Value) (A : Around) (outer : List Env) (s : Shared) (H : Hp) (E : XK), Room k (A.deeper (envOfC qual (defScope st) s.heap.objs.size f cdv)) →
      PSs (cxOf CX0 P wd K mg base N qual (defScope st) f cdv A outer s H E).nox (defBody st) (rdF T c a))
    (hw : ∀ ws P, ini ws P → a (.non :: ws.map avOf) [] fun ds => ds.length = (T.fs c).length ∧ P ds) : FnOk P wd K mg base CX0 (k + 1) f fd N (spI T c ini) :=
  Fn.ok S (fun vs H Q E h => (ini_read len hsm hw h).1) (fun cdv A outer s H vs Q E hr h => ⟨_, hd cdv A outer s H E hr, (ini_read len hsm hw h).2⟩)
theorem fn_iniD {y qual : Str} {params : Arguments} {body : List Stmt} {scope : Scope} {dvs : List V} {kws : List (Str × V)} {N : List Str} (Fn : FunD K y qual params body scope dvs kws f fd) (S : FnScope N N scope) (len : ∀ ws P, ini ws P → ws.length + 1 = N.length) (hsm : (T.fs c).length < 1000)
    (hd : ∀ (cdv : Value) (A : Around) (outer : List Env) (s : Shared) (H : Hp) (E : XK), Room k (A.deeper (envOfC qual scope s.heap.objs.size f cdv)) →
      PSs (cxOf CX0 P wd K mg base N qual scope f cdv A outer s H E) body (rdF T c a))
    (hw : ∀ ws P, ini ws P → a (.non :: ws.map avOf) [] fun ds => ds.length = (T.fs c).length ∧ P ds) : FnOk P wd K mg base CX0 (k + 1) f fd N (spI T c ini) :=
  Fn.ok S (fun vs H Q E h => (ini_read len hsm hw h).1) (fun cdv A outer s H vs Q E hr h => ⟨_, hd cdv A outer s H E hr, (ini_read len hsm hw h).2⟩)
end
theorem kb_mk {K : PySem.W.Frag} {x qual : Str} {st : Stmt} {f : Addr} {fd : FuncData} {ps ks : List Str} {n : Nat} (F : Fun K x qual st f fd)
    (h : ∀ (kV doc pm : Value) (an : Option Addr) (cdv ct : Value) (us ws : List Value), us.length = n → ws.length = ks.length → bindArgs (PySem.W.fnOf x qual (defArgs st) (defBody st) (defScope st) .none kV doc pm an cdv ct) ⟨us, ks.zip ws⟩ = pure (ps.zip (us ++ ws))) :
    KBn K fd ps n ks (fun us ws => us ++ ws) (fun vs zs => vs ++ zs) := by
  obtain ⟨oc, od, kV, doc, pm, an, cdv, ct, osl, rfl, lk, hcd⟩ := F.ex
  exact ⟨fun s us ws _ l1 l2 => .of_eq (h kV doc pm an cdv ct us ws l1 l2), fun r1 r2 => r1.append r2⟩
/-! ### xs.insert(i, d), sorted(xs) -/
def mInsert : FM := fun m ws P => match m, ws with
  | .fl ds, [.cl (.int i), .cl d] => (ds.length < 1000000 ∧ 0 ≤ i ∧ i < 2 ^ 63) ∧ P (.fl (ds.take i.toNat ++ [d] ++ ds.drop i.toNat)) .non
  | _, _ => False
def rInsert : V → List V → Hp → VK → Prop := fun x vs H Q => ∃ (l : Addr) (xs : List V) (i : Int) (y : V), x = .ref l ∧ vs = [.int i, y] ∧ H l = some (.lst xs) ∧ xs.length < sizeLine ∧ 0 ≤ i ∧ i < 2 ^ 63 ∧ Q .non (upd H l (.lst (xs.take i.toNat ++ [y] ++ xs.drop i.toNat)))
def fSorted : List W → (W → Prop) → Prop := one fun w Q => ∃ ns : List Int, lstC w = some (ns.map .int) ∧ ns.length < 64 ∧ ∀ ms : List Int, ms.Perm ns → ms.Pairwise (· ≤ ·) → Q (.fr (.fl (ms.map .int)))
theorem m_insert {T : Tb} : MutV T rInsert mInsert := by
  intro G F H v m A xs ws P Q sm ow ra h k
  unfold mInsert at h
  split at h
  · rename_i ds i d
    obtain ⟨p, vs, rfl, rfl, ho, hf, r⟩ := own_fl ow
    obtain ⟨⟨h1, h2, h3⟩, h⟩ := h
    cases ra with
    | cons r2 t =>
      cases t with
      | cons r3 t =>
        cases t
        exact ⟨p, vs, i, _, rfl, by rw [rep_int r2], ho, by rw [r.length]; exact dSz_lt h1, h2, h3, k _ _ h _ _ _ (chg_upd sm List.mem_cons_self hf) (.fl upd_same hf (((r.take _).snoc r3).append (r.drop _))) (fun _ q => q) .non⟩
  · exact h.elim
theorem mt_insertA {X : Cx} : MtR X "list.insert" rInsert := mt_insert
theorem c_sorted {T : Tb} : CallV T (rSorted T.K) fSorted := by
  intro G F H F' H' xs ws P Q g r h k
  obtain ⟨x, w, rfl, rfl, rx, h⟩ := one_inv h r
  obtain ⟨ns, es, hl, q⟩ := h
  obtain ⟨p, vs, rfl, hs, rr⟩ := rx.lst g.ex es
  rw [reps_ints rr] at hs
  exact ⟨p, ns, rfl, hs, hl, fun ms l hp hs2 hl2 => new_list g (reps_of_ints ms) (q ms hp hs2) k hl2⟩
/-! ### xs.index(d) -/
def ixOf (x : D) : List D → Nat
  | [] => 0
  | d :: ds => if eqD d x = true then 0 else ixOf x ds + 1
def aIndex (o : AE) (es : AA) : AE := fun δ Q => o δ fun w => match itemsC w with
  | some ds => es δ fun ws => match ws with
    | [.cl x] => (okD x = true ∧ okD (.lst ds) = true ∧ inD x ds = true) ∧ Q (.cl (.int (ixOf x ds : Nat)))
    | _ => False
  | none => False
theorem ixOf_at (x : D) : ∀ {ds : List D}, inD x ds = true → ∃ z, ds[ixOf x ds]? = some z ∧ eqD z x = true ∧ ∀ m z', m < ixOf x ds → ds[m]? = some z' → eqD z' x = false
  | [], h => by simp [inD] at h
  | d :: ds, h => by
    unfold ixOf
    by_cases q : eqD d x = true
    · rw [if_pos q]
      exact ⟨d, rfl, q, fun m z' hm => by omega⟩
    · rw [if_neg q]
      have h2 : inD x ds = true := by
        unfold inD at h ⊢
        rw [List.any_cons] at h
        simpa [q] using h
      obtain ⟨z, h3, h4, h5⟩ := ixOf_at x h2
      refine ⟨z, by simpa using h3, h4, fun m z' hm hz => ?_⟩
      cases m with
      | zero => simp at hz; subst hz; simpa using q
      | succ m => exact h5 m z' (by omega) (by simpa using hz)
section
variable {T : Tb} {X : Cx} {e o : Expr} {es : List Expr} {x : AE} {xs : AA} {pos apos : Pos}
theorem e_index (hTK : T.K = X.K) (hu : X.A.units + 65 < cLine) (ho : PE X o (rdE T x)) (ha : PA X (e :: es) (rdA T xs))
    (hbase : attributeBase o "index" X.env (eval o X.env) = eval o X.env := by rfl)
    (hfew : ((backTo pos (starEach (e :: es) X.env)).all (fun x => !x.1) && (backToKw pos (keywordEach [] X.env)).all (fun x => x.1.isSome)
      && decide ((e :: es).length + ([] : List Keyword).length + (if ([] : List Keyword).isEmpty then 0 else 1) < 30)) = true := by rfl)
    (hline : (apos.endLine == pos.line) = true := by rfl) (hs : starEach (e :: es) X.env = (false, eval e X.env) :: starEach es X.env := by rfl) (hplain : (backTo pos (starEach es X.env)).any (·.1) = false := by rfl) :
    PE X (.Call (.Attribute o "index" apos) (e :: es) [] pos) (rdE T (aIndex x xs)) :=
  (pe_bm PySem.F.plainAttrs_list PySem.F.slot_list_index PySem.F.type_list_index (mt_indexD hu) ho ha hbase hfew hline hs hplain).mono fun σ H Q h => by
    obtain ⟨G, F, δ, P, R, h, k⟩ := h
    refine ⟨G, F, δ, _, R, h, fun w hw v F1 H1 g r => ?_⟩
    split at hw
    · rename_i ds hd
      obtain ⟨p, vs, rfl, hp, rr⟩ := r.items g.ex hd
      refine ⟨.inl ⟨rfl, _, SqL.of hp⟩, G, F1, δ, _, R.go g, hw, fun ws hws us F2 H2 g2 r2 => ?_⟩
      split at hws
      · rename_i y
        obtain ⟨⟨o1, o2, h3⟩, q⟩ := hws
        cases r2 with
        | cons ry t =>
          cases t
          obtain ⟨z, h4, h5, h6⟩ := ixOf_at y h3
          have o3 : PyData.canLayAll0 (pds ds) = true := by simpa [pd, PyData.canLay0] using SeqAt.canLay_of_shaped o2
          have hp2 := g2.h _ _ hp
          refine ⟨p, _, pd y, pds ds, ixOf y ds, pd z, rfl, rfl, .lst (hTK ▸ SqL.of hp2) (hTK ▸ ((rr.mono g2.f).mono g2.ex).dp o3), hTK ▸ (Rep.mono g2.ex ry).dpo o1, o2, o1, by rw [pds_map, List.getElem?_map, h4]; rfl, h5, fun m z' hm hz => ?_, k _ q _ F2 H2 (g.trans g2) (.int _)⟩
          rw [pds_map, List.getElem?_map] at hz
          cases e : ds[m]? with
          | none => rw [e] at hz; cases hz
          | some d =>
            rw [e] at hz
            cases hz
            exact h6 m d hm e
      · exact hws.elim
    · exact hw.elim
end
theorem fSorted_eq (w : W) (Q : W → Prop) : fSorted [w] Q = ∃ ns : List Int, lstC w = some (ns.map .int) ∧ ns.length < 64 ∧ ∀ ms : List Int, ms.Perm ns → ms.Pairwise (· ≤ ·) → Q (.fr (.fl (ms.map .int))) := rfl
end Vl
/-! Swapped stores; isinstance of an own class; != of lists whose data are equal; == of an own class. -/
namespace GQ
open PySem PySem.SeqAt
open AutoSeq1 (wpAny_loadPart')
open MeetsSeq MeetsSeq2 MeetsSeq3 SeqRoads2
section
variable {prog : Program} {w : World} {A : Around} {R : Result → Shared → Prop}
theorem ne_loopG (l b : Addr) (N : Nat) (I : Nat → Shared → Prop) (hl : ListI prog w A (fun e s' => R (.error e) s') l b N I)
    (fin : ∀ s, I N s → R (.ok (.ret (.bool false))) s) (k : Nat) :
    ∀ i : Nat, N - i = k → i ≤ N → ∀ s, I i s →
      wpAny (model prog w) A.in1 (Builtin.«list.__eq__.loop» ⟨[.ref l, .ref b, rawInt i, rawInt 3], []⟩) (FinOf prog w A R) (fun e s' => R (.error e) s') s := by
  induction k with
  | zero =>
    intro i hk hi s h
    obtain ⟨items, items2, n, n2, hl1, hb1, hs1, hs2, _⟩ := hl _ _ h
    have hi' : i = N := by omega
    have hR : R (.ok (.ret (.bool false))) s := fin s (hi' ▸ h)
    obtain ⟨hp, g, d, tk, os⟩ := s
    wp_walk using wpAny_loadPart' hl1, wpAny_loadPart' hb1
    have hi1 : items[((i : Nat) : Int).toNat]? = none := by simp; omega
    have hi2 : items2[((i : Nat) : Int).toNat]? = none := by simp; omega
    rw [hi1, hi2]
    wp_walk using wpAny_loadPart' hl1, wpAny_loadPart' hb1
    show R (.ok (.ret (.bool (items.size != items2.size)))) _
    rw [hs1, hs2]
    simpa using hR
  | succ k ih =>
    intro i hk hi s h
    obtain ⟨items, items2, n, n2, hl1, hb1, hs1, hs2, turn⟩ := hl _ _ h
    have hlt : i < items.size := by omega
    have hlt2 : i < items2.size := by omega
    have ht := turn hlt hlt2
    obtain ⟨hp, g, d, tk, os⟩ := s
    wp_walk using wpAny_loadPart' hl1, wpAny_loadPart' hb1
    have hi1 : items[((i : Nat) : Int).toNat]? = some items[i] := by simp [hlt]
    have hi2 : items2[((i : Nat) : Int).toNat]? = some items2[i] := by simp [hlt2]
    have hc : ((i : Int) + 1) = ((i + 1 : Nat) : Int) := by omega
    rw [hi1, hi2]
    refine wpAny_bind (wpAny_mono ht (fun r s2 h2 => ?_) fun _ _ x => x)
    obtain ⟨hr, h2⟩ := h2
    subst hr
    have hrec := ih (i + 1) (by omega) (by omega) s2 h2
    obtain ⟨hp2, g2, d2, tk2, os2⟩ := s2
    wp_walk
    rw [hc]
    exact ⟨plainId_quiet plain_eq_loop _, codeAny_builtin entry_eq_loop (by
      rw [Around.under_plainId plain_eq_loop _]
      exact hrec)⟩
theorem list_neG (l b : Addr) (N : Nat) (I : Nat → Shared → Prop) (hl : ListI prog w A (fun e s' => R (.error e) s') l b N I)
    (fin : ∀ s, I N s → R (.ok (.ret (.bool false))) s) {s : Shared} (h : I 0 s) :
    wpAny (model prog w) A.in1 (Builtin.«list.__ne__» ⟨[.ref l, .ref b], []⟩) (FinOf prog w A R) (fun e s' => R (.error e) s') s := by
  obtain ⟨items, items2, n, n2, hl1, hb1, hs1, hs2, _⟩ := hl _ _ h
  have hrec := ne_loopG (A := A) (R := R) l b N I hl fin _ 0 rfl (Nat.zero_le _) s h
  obtain ⟨hp, g, d, tk, os⟩ := s
  have f3 := AutoSeq1.sub_list_list
  have hne : ¬ (items.size != items2.size) = true := by simp [hs1, hs2]
  wp_walk using wpAny_loadPart' hl1, wpAny_loadPart' hb1
  exact ⟨plainId_quiet plain_eq_loop _, codeAny_builtin entry_eq_loop (by
    rw [Around.under_plainId plain_eq_loop _]
    exact hrec)⟩
end
section
variable {prog : Program} {w : World} {A : Around} {E : Value → Shared → Prop} {s : Shared}
theorem rc_nlistG {l b : Addr} {N : Nat} {Q : Value → Shared → Prop} (hu : A.units < cLine) (I : Nat → Shared → Prop) (hl : ListI prog w A E l b N I)
    (fin : ∀ s, I N s → Q (.bool false) s) (h : I 0 s) : wpAny (model prog w) A (richCompare .NotEq (.ref l) (.ref b)) Q E s := by
  obtain ⟨items, items2, n, n2, hl1, hb1, _, _, _⟩ := hl _ _ h
  refine wpAny_richCompare_same_room (op := .NotEq) ⟨_, hl1, rfl⟩ ⟨_, hb1, rfl⟩ F.slot_list_ne (call_here F.slot_list_ne ⟨_, hl1, rfl⟩ F.entry_list_ne (F.args_list_ne_2 _ _) ?_) hu
  exact list_neG (R := wants (fun v s' => v ≠ .notImplemented ∧ Q v s') E) l b N I hl (fun s' q => ⟨(fun x => nomatch x), fin s' q⟩) h
end
end GQ
namespace Vl
open PySem PySem.Spec PyProof.Rows L2
/-! ### a, b = x, y -/
def aPar (i j : Nat) (es : AA) : AS := fun E δ => es δ fun ws => match ws with
  | [.cl d, .cl e] => E.nx ((δ.set i (.im d)).set j (.im e))
  | _ => False
section
variable {T : Tb} {X : Cx} {i j : Nat} {x y : Str} {a b : Expr} {xs : AA} {px py pt pos : Pos} {kt k2 pt2}
theorem s_par (hc : X.calm = true) (hN : X.N.Nodup) (hi : X.N[i]? = some x) (hj : X.N[j]? = some y) (hij : i ≠ j) (hx : X.env.scope.names.lookup x = some .local) (hy : X.env.scope.names.lookup y = some .local) (ha : PA X [a, b] (rdA T xs))
    (hw : swappedStores [.Tuple [.Name x px, .Name y py] kt pt] (.Tuple [a, b] k2 pt2) X.env = pure (some [x, y])) (hs : swapsWithSole [.Tuple [.Name x px, .Name y py] kt pt] (.Tuple [a, b] k2 pt2) pos.line X.env = pure false := by rfl) :
    PS X (.Assign [.Tuple [.Name x px, .Name y py] kt pt] (.Tuple [a, b] k2 pt2) pos) (rdS T (aPar i j xs)) := (ps_par hc hN hi hj hij hx hy ha hw hs).mono fun D' σ H h => by
  obtain ⟨G, F, δ, E, R, h, k⟩ := h
  refine ⟨G, F, δ, _, R, h, fun ws hw vs F1 H1 g r => ?_⟩
  split at hw
  · rename_i d e
    cases r with
    | cons r1 t =>
      cases t with
      | cons r2 t =>
        cases t
        exact ⟨_, _, rfl, k.nx _ hw F1 H1 _ g.f ((((R.go g).put (a := .im d) ⟨_, rfl, r1⟩ fun _ _ e => nomatch e)).put (a := .im e) ⟨_, rfl, r2⟩ fun _ _ e => nomatch e)⟩
  · exact hw.elim
end
/-! ### isinstance(x, C), C an own class -/
def aIsO (c : Nat) (e : AE) : AE := fun δ Q => e δ fun w => match w with
  | .cl (.ins c' _) => c' = c ∧ Q (.cl (.bl true))
  | .cl (.lst _) => Q (.cl (.bl false))
  | .cl (.int _) => Q (.cl (.bl false))
  | _ => False
structure IsOk (K : PySem.W.Frag) (C : Addr) : Prop where
  ins : C8.InsC K C
  kl : PySem.W.kitOne K (.type "list") (.ref C) = some false
  ki : PySem.W.kitOne K (.type "int") (.ref C) = some false
theorem kit_me {K : PySem.W.Frag} {C : Addr} : PySem.W.kitOne K (.ref C) (.ref C) = some true := by
  unfold PySem.W.kitOne
  rw [if_pos (by simp)]
theorem kit_ty2 {K : PySem.W.Frag} {C : Addr} {t : String} (h1 : PySem.W.isClsIn K C = true) (h2 : PySem.W.typeIn K (.ref C) = some (.type "type")) (h3 : PySem.W.subIn K (.type t) (.ref C) = some false) : PySem.W.kitOne K (.type t) (.ref C) = some false := by
  unfold PySem.W.kitOne
  rw [if_neg (by simp)]
  unfold PySem.W.kitCls
  unfold PySem.W.isClsIn at h1
  simp only [h1, h2, h3, Bool.true_and, beq_self_eq_true, if_true]
theorem is_mk {K : PySem.W.Frag} {C : Addr} (cl : Cls K C) (ha : PySem.W.findIn K (.ref C) "__class__" = some (some (.builtin "object.__class__"))) (hn : PySem.W.specialIn K (.builtin "object.__class__") "__get__" = some (some (.builtin "getset_descriptor.__get__")))
    (ht : PySem.W.takesIn K (.builtin "object.__class__") = some true) (hm : PySem.W.mroIn K C (.type "object") = some true) (h1 : PySem.W.isClsIn K C = true) (h2 : PySem.W.typeIn K (.ref C) = some (.type "type")) (h3 : PySem.W.subIn K (.type "list") (.ref C) = some false) (h4 : PySem.W.subIn K (.type "int") (.ref C) = some false) : IsOk K C :=
  ⟨⟨cl, ha, hn, ht, hm, kit_me⟩, kit_ty2 h1 h2 h3, kit_ty2 h1 h2 h4⟩
section
variable {T : Tb} {X : Cx} {e : Expr} {x : AE} {c : Nat} {s : Str} {p p2 pos : Pos}
theorem e_isO (hTK : T.K = X.K) (I : IsOk X.K (T.cl c)) (hm : X.mg "isinstance" = none) (hg : Gl X "isinstance") (hg2 : Gl X s) (hm2 : X.mg s = some (.ref (T.cl c))) (ha : PE X e (rdE T x)) (hd : (s == ("__debug__" : Str)) = false := by decide)
    (hs1 : starEach [e, .Name s p2] X.env = (false, eval e X.env) :: starEach [.Name s p2] X.env := by rfl) (hs2 : starEach [.Name s p2] X.env = (false, eval (.Name s p2) X.env) :: starEach [] X.env := by rfl) (hpl : (backTo pos (starEach [.Name s p2] X.env)).any (·.1) = false := by rfl) :
    PE X (.Call (.Name "isinstance" p) [e, .Name s p2] [] pos) (rdE T (aIsO c x)) := by
  refine (pe_callB call_isi hg hm (by decide +kernel) (pa_cons ha (pa_cons (pe_glob (v := .ref (T.cl c)) hg2 hm2 rfl hd) pa_nil hs2) hs1) (by decide) (by decide) hs1 hpl).mono fun σ H Q h => ?_
  obtain ⟨G, F, δ, P, R, h, k⟩ := h
  refine ⟨G, F, δ, _, R, h, fun w hw v F1 H1 g r => ?_⟩
  split at hw
  · rename_i c' ds
    obtain ⟨rfl, q⟩ := hw
    obtain ⟨a, dx, vs, rfl, hs, hl, rr⟩ := rep_ins r
    exact ⟨_, _, _, _, true, rfl, .own _, .base (.ins (g.ex _ _ hs) I.ins.cl I.ins.ha I.ins.hn I.ins.htk I.ins.hm), I.ins.me, k _ q _ _ _ g (.bl true)⟩
  · rename_i ds
    obtain ⟨a, vs, rfl, hs, rr⟩ := rep_lst r
    exact ⟨_, _, _, _, false, rfl, .own _, .base (.lst (g.ex _ _ hs)), I.kl, k _ hw _ _ _ g (.bl false)⟩
  · rename_i i
    cases rep_int r
    exact ⟨_, _, _, _, false, rfl, .own _, .base (.int i), I.ki, k _ hw _ _ _ g (.bl false)⟩
  · exact hw.elim
end
/-! ### equal data are equal -/
/-- instances of class c within k lists and tuples -/
def lvD (g : List D → Prop) (c : Nat) : Nat → D → Prop
  | 0, d => (match d with
    | .non => True
    | .bl _ => True
    | .int _ => True
    | .str _ => True
    | .ins c' ds => c' = c ∧ g ds
    | _ => False)
  | k + 1, d => lvD g c k d ∨ ∃ ds, (d = .lst ds ∨ d = .tup ds) ∧ ∀ e ∈ ds, lvD g c k e
section
variable {T : Tb} {X : Cx} {c : Nat} {g : List D → Prop}
def RSame (T : Tb) (g : List D → Prop) (c : Nat) (a b : Addr) (H : Hp) : Prop := ∃ ds F, g ds ∧ Same F H ∧ Rep T F (.ref a) (.ins c ds) ∧ Rep T F (.ref b) (.ins c ds)
theorem rsame_mon {a b : Addr} {H H' : Hp} (e : Ext H H') (h : RSame T g c a b H) : RSame T g c a b H' := by
  obtain ⟨ds, F, hg, s, h1, h2⟩ := h
  exact ⟨ds, F, hg, fun a o q => e _ _ (s _ _ q), h1, h2⟩
def DBase (T : Tb) (g : List D → Prop) (c : Nat) : Eqv := fun x y H => DFlat x y H ∨ DIns (T.cl c) (RSame T g c) x y H
def DLev (T : Tb) (g : List D → Prop) (c : Nat) : Nat → Eqv
  | 0 => DBase T g c
  | k + 1 => fun x y H => DLev T g c k x y H ∨ (DList (DLev T g c k) x y H ∨ DTup T.K (DLev T g c k) x y H)
theorem mon_lev : ∀ k, Mon (DLev T g c k)
  | 0 => Mon.or mon_flat (mon_ins fun _ _ _ _ e h => rsame_mon e h)
  | k + 1 => Mon.or (mon_lev k) (Mon.or (mon_list (mon_lev k)) (mon_tup (mon_lev k)))
theorem eqG_lev (hTK : T.K = X.K) {n : Nat} (h : EqG X n (DIns (T.cl c) (RSame T g c))) : ∀ k, EqG X (n + k) (DLev T g c k)
  | 0 => EqG.or (eqG_flat.mono (Nat.zero_le _)) h
  | k + 1 => EqG.or ((eqG_lev hTK h k).mono (Nat.le_succ _)) (EqG.or (eqG_list (mon_lev k) (eqG_lev hTK h k)) (hTK ▸ eqG_tup (mon_lev k) (eqG_lev hTK h k)))
theorem lev_of {F H : Hp} (e : Same F H) : ∀ {k : Nat} {d : D} {x y : V}, lvD g c k d → Rep T F x d → Rep T F y d → DLev T g c k x y H
  | 0, d, x, y, h, rx, ry => by
    cases d with
    | non => cases rep_non rx; cases rep_non ry; exact .inl ⟨rfl, rfl, rfl⟩
    | bl b => cases rep_bl rx; cases rep_bl ry; exact .inl ⟨rfl, rfl, by simp [eqV]⟩
    | int b => cases rep_int rx; cases rep_int ry; exact .inl ⟨rfl, rfl, by simp [eqV]⟩
    | str b => cases rep_str rx; cases rep_str ry; exact .inl ⟨rfl, rfl, by simp [eqV]⟩
    | ins c' ds =>
      obtain ⟨h, hg⟩ : c' = c ∧ g ds := h
      subst h
      obtain ⟨a, dx, vs, rfl, h1, _, _⟩ := rep_ins rx
      obtain ⟨b, dy, ws, rfl, h2, _, _⟩ := rep_ins ry
      exact .inr ⟨a, b, dx, dy, _, _, rfl, rfl, e _ _ h1, e _ _ h2, ds, F, hg, e, rx, ry⟩
    | tup ds => exact h.elim
    | lst ds => exact h.elim
    | dct t ks ds => exact h.elim
    | scr ns => exact h.elim
    | nd ks => exact h.elim
  | k + 1, d, x, y, h, rx, ry => by
    rcases h with h | ⟨ds, hd, h⟩
    · exact .inl (lev_of e h rx ry)
    · have prs : ∀ {vs ws : List V} {ds : List D}, (∀ d ∈ ds, lvD g c k d) → Reps T F vs ds → Reps T F ws ds → Prs (DLev T g c k) vs ws H := by
        intro vs ws ds
        induction ds generalizing vs ws with
        | nil => intro _ r1 r2; cases r1; cases r2; exact Prs.nil
        | cons d ds ih =>
          intro hd r1 r2
          cases r1 with
          | cons p1 t1 =>
            cases r2 with
            | cons p2 t2 => exact Prs.cons (lev_of e (hd d List.mem_cons_self) p1 p2) (ih (fun d q => hd d (List.mem_cons_of_mem _ q)) t1 t2)
      rcases hd with rfl | rfl
      · obtain ⟨a, vs, rfl, h1, r1⟩ := rep_lst rx
        obtain ⟨b, ws, rfl, h2, r2⟩ := rep_lst ry
        exact .inr (.inl ⟨a, b, vs, ws, rfl, rfl, e _ _ h1, e _ _ h2, prs h r1 r2⟩)
      · obtain ⟨a, vs, rfl, h1, r1⟩ := rep_tup rx
        obtain ⟨b, ws, rfl, h2, r2⟩ := rep_tup ry
        exact .inr (.inr ⟨a, b, vs, ws, rfl, rfl, SqT.of (e _ _ h1), SqT.of (e _ _ h2), prs h r1 r2⟩)
def rNeG (D : Eqv) : R2 := fun x y H Q => DList D x y H ∧ ∀ H', Ext H H' → Q (.bl false) H'
theorem op_neG {n : Nat} {D : Eqv} (hD : Mon D) (h : EqG X n D) (hr : Room (n + 1) X.A) : OpR X (compareOp .NotEq) (rNeG D) := by
  intro pins s σ H x y v u Q I rx ry hq
  obtain ⟨⟨a, b, xs, ys, rfl, rfl, ha, hb, p⟩, q⟩ := hq
  cases rx
  cases ry
  show wpAny (model X.prog X.w) X.A (richCompare .NotEq (.ref a) (.ref b)) (EP X pins σ Q) X.xe s
  refine GQ.rc_nlistG (N := xs.length) hr.units0 (fun _ s' => LoopI X pins σ H s') (fun i s' q => ?_) (fun s' q2 => ?_) ⟨H, I, Ext.rfl'⟩
  · obtain ⟨H1, I1, e1⟩ := id q
    obtain ⟨z, its, k, r, e⟩ := I1.hok a _ (e1 _ _ ha)
    obtain ⟨z2, its2, k2, r2, e2⟩ := I1.hok b _ (e1 _ _ hb)
    refine ⟨its.toArray, its2.toArray, k, k2, e, e2, by rw [List.size_toArray, ← r.length], by rw [List.size_toArray, ← r2.length, ← p.1], fun h1 h2 => ?_⟩
    exact turnG hD h ⟨hr, rfl⟩ p r r2 i h1 h2 s' q
  · obtain ⟨H1, I1, e1⟩ := q2
    exact ⟨.bl false, H1, I1, rfl, q H1 e1⟩
/-- xs != ys where the data are equal -/
def dNeS (g : List D → Prop) (c k : Nat) : W → W → (W → Prop) → Prop := fun x y Q => match itemsC x, itemsC y with
  | some ds, some es => ds = es ∧ (∀ d ∈ ds, lvD g c k d) ∧ Q (.cl (.bl false))
  | _, _ => False
theorem b_neS {k : Nat} : Bin2 T (rNeG (DLev T g c k)) (dNeS g c k) := by
  intro G F H F' H' x y u w P Q go rx ry h kk
  unfold dNeS at h
  split at h
  · rename_i ds es h1 h2
    obtain ⟨rfl, hl, q⟩ := h
    obtain ⟨a, vs, rfl, ha, ra⟩ := rx.items go.ex h1
    obtain ⟨b, ws, rfl, hb, rb⟩ := ry.items go.ex h2
    have prs : ∀ {vs ws : List V} {ds : List D}, (∀ d ∈ ds, lvD g c k d) → Reps T F' vs ds → Reps T F' ws ds → Prs (DLev T g c k) vs ws H' := by
      intro vs ws ds
      induction ds generalizing vs ws with
      | nil => intro _ r1 r2; cases r1; cases r2; exact Prs.nil
      | cons d ds ih =>
        intro hd r1 r2
        cases r1 with
        | cons p1 t1 =>
          cases r2 with
          | cons p2 t2 => exact Prs.cons (lev_of go.ex (hd d List.mem_cons_self) p1 p2) (ih (fun d q => hd d (List.mem_cons_of_mem _ q)) t1 t2)
    refine ⟨⟨a, b, vs, ws, rfl, rfl, ha, hb, prs hl ra rb⟩, fun H2 e => kk _ q _ F' H2 (go.trans ⟨e, Same.refl _, fun a o z => e _ _ (go.ex _ _ z), fun _ _ _ => rfl⟩) (.bl false)⟩
  · exact h.elim
/-- from the contract of __eq__ -/
theorem eqG_of {ct : Ct} {f : Addr} {fd : FuncData} {ps : List Str} {n : Nat} (Fn : FnOk X.prog X.w X.K X.mg X.base CX0 n f fd ps (spC T ct)) (hct : ∀ ds Q, g ds → Q (.cl (.bl true)) → ct [.cl (.ins c ds), .cl (.ins c ds)] Q)
    (hm : Meth X.K (T.cl c) "__eq__" f) (hb : Binds X.K fd ps []) : EqG X n (DIns (T.cl c) (RSame T g c)) :=
  eqG_ins (E := E0) (Fn.imp fun vs H Q E h => by
    obtain ⟨a, b, rfl, ⟨ds, F, hg, s, r1, r2⟩, k⟩ := h
    exact ⟨⟨H, H, [], .non⟩, F, [.cl (.ins c ds), .cl (.ins c ds)], fun w => w = .cl (.bl true), s, .cons r1 (.cons r2 .nil), hct ds _ hg rfl, fun w hw v F' H' g r => by
      subst hw
      cases r
      exact k H' g.h⟩) hm.at_ hm.fn hb pass0
theorem op_neS (hTK : T.K = X.K) {ct : Ct} {f : Addr} {fd : FuncData} {ps : List Str} {n k m : Nat} (Fn : FnOk X.prog X.w X.K X.mg X.base CX0 n f fd ps (spC T ct)) (hct : ∀ ds Q, g ds → Q (.cl (.bl true)) → ct [.cl (.ins c ds), .cl (.ins c ds)] Q)
    (hm : Meth X.K (T.cl c) "__eq__" f) (hb : Binds X.K fd ps []) (hr : Room m X.A) (hmn : n + k + 1 ≤ m) : OpR X (compareOp .NotEq) (rNeG (DLev T g c k)) :=
  op_neG (mon_lev k) (eqG_lev hTK (eqG_of Fn hct hm hb) k) (hr.mono hmn)
end
end Vl
/-! Dicts: keys are ints and texts, or tuples of them. Places: objects within an own tree that are changed. -/
namespace Vl
open PySem PySem.Spec PyProof.Rows L2

/-! ### keys and values -/
def posK : List (List Key) → List Key → Option Nat
  | [], _ => none
  | a :: ks, k => if a = k then some 0 else (posK ks k).map (· + 1)
def getK {α : Type} : List (List Key) → List α → List Key → Option α
  | a :: ks, x :: xs, k => if a = k then some x else getK ks xs k
  | _, _, _ => none
instance memK (k : List Key) (ks : List (List Key)) : Decidable (k ∈ ks) := decidable_of_iff ((ks.any fun a => decide (a = k)) = true) (by
  rw [List.any_eq_true]
  constructor
  · rintro ⟨a, ha, h⟩; rw [← of_decide_eq_true h]; exact ha
  · intro h; exact ⟨k, h, decide_eq_true rfl⟩)
def putKs (ks : List (List Key)) (k : List Key) : List (List Key) := if k ∈ ks then ks else ks ++ [k]
def putVs {α : Type} : List (List Key) → List α → List Key → α → List α
  | a :: ks, x :: xs, k, v => if a = k then v :: xs else x :: putVs ks xs k v
  | _, xs, _, v => xs ++ [v]
def delKs (ks : List (List Key)) (k : List Key) : List (List Key) := ks.filter fun a => decide (a ≠ k)
def delVs {α : Type} : List (List Key) → List α → List Key → List α
  | a :: ks, x :: xs, k => if a = k then delVs ks xs k else x :: delVs ks xs k
  | _, _, _ => []
section
variable {α β : Type}
theorem getK_none : ∀ {ks : List (List Key)} {xs : List α} {k : List Key}, ks.length = xs.length → (getK ks xs k = none ↔ k ∉ ks)
  | [], [], k, _ => by simp [getK]
  | [], _ :: _, k, h => by simp at h
  | _ :: _, [], k, h => by simp at h
  | a :: ks, x :: xs, k, h => by
    unfold getK
    by_cases e : a = k
    · simp [e]
    · rw [if_neg e, getK_none (by simpa using h)]
      constructor
      · intro h1 h2
        rcases List.mem_cons.mp h2 with z | z
        · exact e z.symm
        · exact h1 z
      · exact fun h1 h2 => h1 (List.mem_cons_of_mem _ h2)
theorem getK_map (f : α → β) : ∀ (ks : List (List Key)) (xs : List α) (k : List Key), getK ks (xs.map f) k = (getK ks xs k).map f
  | [], _, _ => rfl
  | _ :: _, [], _ => rfl
  | a :: ks, x :: xs, k => by
    show (if a = k then some (f x) else getK ks (xs.map f) k) = Option.map f (if a = k then some x else getK ks xs k)
    by_cases e : a = k
    · rw [if_pos e, if_pos e]; rfl
    · rw [if_neg e, if_neg e]; exact getK_map f ks xs k
theorem putVs_map (f : α → β) : ∀ (ks : List (List Key)) (xs : List α) (k : List Key) (v : α), putVs ks (xs.map f) k (f v) = (putVs ks xs k v).map f
  | [], xs, _, v => by simp [putVs]
  | _ :: _, [], _, v => by simp [putVs]
  | a :: ks, x :: xs, k, v => by
    show (if a = k then f v :: xs.map f else f x :: putVs ks (xs.map f) k (f v)) = List.map f (if a = k then v :: xs else x :: putVs ks xs k v)
    by_cases e : a = k
    · rw [if_pos e, if_pos e]; rfl
    · rw [if_neg e, if_neg e, putVs_map f ks xs k v]; rfl
theorem delVs_map (f : α → β) : ∀ (ks : List (List Key)) (xs : List α) (k : List Key), delVs ks (xs.map f) k = (delVs ks xs k).map f
  | [], _, _ => by simp [delVs]
  | _ :: _, [], _ => by simp [delVs]
  | a :: ks, x :: xs, k => by
    show (if a = k then delVs ks (xs.map f) k else f x :: delVs ks (xs.map f) k) = List.map f (if a = k then delVs ks xs k else x :: delVs ks xs k)
    by_cases e : a = k
    · rw [if_pos e, if_pos e]; exact delVs_map f ks xs k
    · rw [if_neg e, if_neg e, delVs_map f ks xs k]; rfl
theorem putKs_cons {a k : List Key} {ks : List (List Key)} (h : a ≠ k) : putKs (a :: ks) k = a :: putKs ks k := by
  unfold putKs
  by_cases e : k ∈ ks
  · rw [if_pos (List.mem_cons_of_mem _ e), if_pos e]
  · rw [if_neg (fun z => by rcases List.mem_cons.mp z with z | z; exact h z.symm; exact e z), if_neg e]; rfl
theorem put_len : ∀ {ks : List (List Key)} {xs : List α} {k : List Key} {v : α}, ks.length = xs.length → (putKs ks k).length = (putVs ks xs k v).length
  | [], [], k, v, _ => by simp [putKs, putVs]
  | [], _ :: _, k, v, h => by simp at h
  | _ :: _, [], k, v, h => by simp at h
  | a :: ks, x :: xs, k, v, h => by
    by_cases e : a = k
    · subst e
      unfold putKs putVs
      rw [if_pos List.mem_cons_self, if_pos rfl]
      simpa using h
    · rw [putKs_cons e]
      unfold putVs
      rw [if_neg e, List.length_cons, List.length_cons, put_len (ks := ks) (by simpa using h)]
theorem putKs_len (ks : List (List Key)) (k : List Key) : (putKs ks k).length ≤ ks.length + 1 := by
  unfold putKs
  split <;> simp
theorem putKs_mem {ks : List (List Key)} {k j : List Key} : j ∈ putKs ks k ↔ j ∈ ks ∨ j = k := by
  unfold putKs
  split
  · rename_i h
    constructor
    · exact .inl
    · rintro (q | rfl)
      · exact q
      · exact h
  · simp
theorem putKs_nodup {ks : List (List Key)} {k : List Key} (h : ks.Nodup) : (putKs ks k).Nodup := by
  unfold putKs
  split
  · exact h
  · rename_i q
    rw [List.nodup_append]
    exact ⟨h, List.nodup_cons.mpr ⟨List.not_mem_nil, List.nodup_nil⟩, fun a ha b hb e => q (by rw [List.mem_singleton.mp hb] at e; exact e ▸ ha)⟩
/-- what is found behind a store -/
theorem getK_put : ∀ {ks : List (List Key)} {xs : List α} {k j : List Key} {v : α}, ks.length = xs.length → getK (putKs ks k) (putVs ks xs k v) j = if j = k then some v else getK ks xs j
  | [], [], k, j, v, _ => by
    have e1 : putKs [] k = [k] := by unfold putKs; rw [if_neg List.not_mem_nil]; rfl
    rw [e1]
    show (if k = j then some v else none) = if j = k then some v else none
    by_cases e : j = k
    · rw [if_pos e, if_pos e.symm]
    · rw [if_neg e, if_neg fun z => e z.symm]
  | [], _ :: _, k, j, v, h => by simp at h
  | _ :: _, [], k, j, v, h => by simp at h
  | a :: ks, x :: xs, k, j, v, h => by
    by_cases e : a = k
    · subst e
      unfold putKs putVs
      rw [if_pos List.mem_cons_self, if_pos rfl]
      unfold getK
      by_cases e2 : j = a
      · rw [if_pos e2, if_pos e2.symm]
      · rw [if_neg e2, if_neg (fun z => e2 z.symm), if_neg (fun z => e2 z.symm)]
    · rw [putKs_cons e]
      unfold putVs
      rw [if_neg e]
      unfold getK
      by_cases e2 : a = j
      · subst e2
        rw [if_pos rfl, if_neg e, if_pos rfl]
      · rw [if_neg e2, getK_put (ks := ks) (by simpa using h), if_neg e2]
theorem del_len : ∀ {ks : List (List Key)} {xs : List α} {k : List Key}, ks.length = xs.length → (delKs ks k).length = (delVs ks xs k).length
  | [], [], k, _ => by simp [delKs, delVs]
  | [], _ :: _, k, h => by simp at h
  | _ :: _, [], k, h => by simp at h
  | a :: ks, x :: xs, k, h => by
    have ih := del_len (ks := ks) (xs := xs) (k := k) (by simpa using h)
    unfold delKs at ih ⊢
    unfold delVs
    by_cases e : a = k
    · rw [if_pos e, List.filter_cons, if_neg (by simp [e])]; exact ih
    · rw [if_neg e, List.filter_cons, if_pos (by simp [e]), List.length_cons, List.length_cons, ih]
theorem getK_del : ∀ {ks : List (List Key)} {xs : List α} {k j : List Key}, ks.length = xs.length → getK (delKs ks k) (delVs ks xs k) j = if j = k then none else getK ks xs j
  | [], [], k, j, _ => by simp [delKs, delVs, getK]
  | [], _ :: _, k, j, h => by simp at h
  | _ :: _, [], k, j, h => by simp at h
  | a :: ks, x :: xs, k, j, h => by
    have ih := getK_del (ks := ks) (xs := xs) (k := k) (j := j) (by simpa using h)
    unfold delKs at ih ⊢
    unfold delVs
    by_cases e : a = k
    · rw [if_pos e, List.filter_cons, if_neg (by simp [e]), ih]
      by_cases e2 : j = k
      · rw [if_pos e2, if_pos e2]
      · rw [if_neg e2, if_neg e2]
        show getK ks xs j = if a = j then some x else getK ks xs j
        rw [if_neg fun z => e2 (z.symm.trans e)]
    · rw [if_neg e, List.filter_cons, if_pos (by simp [e])]
      unfold getK
      by_cases e2 : a = j
      · rw [if_pos e2, if_pos e2, if_neg fun z => e (e2.trans z)]
      · rw [if_neg e2, if_neg e2, ih]
end
section
variable {κ : Type} [DecidableEq κ] (e : κ → List Key) (he : ∀ a b, e a = e b → a = b)
include he
theorem val_get : ∀ (kvs : List (κ × V)) (k : κ), valV kvs k = getK (kvs.map fun p => e p.1) (kvs.map (·.2)) (e k)
  | [], _ => rfl
  | (a, v) :: kvs, k => by
    show _ = if e a = e k then some v else getK (kvs.map fun p => e p.1) (kvs.map (·.2)) (e k)
    by_cases q : a = k
    · rw [valV_pos (p := (a, v)) q, if_pos (by rw [q])]
    · rw [valV_neg (p := (a, v)) q, if_neg (fun z => q (he _ _ z)), val_get kvs k]
theorem any_mem (kvs : List (κ × V)) (k : κ) : (kvs.any fun kv => decide (kv.1 = k)) = true ↔ e k ∈ kvs.map fun p => e p.1 := by
  rw [List.any_eq_true]
  constructor
  · rintro ⟨p, hp, q⟩
    exact List.mem_map.mpr ⟨p, hp, by rw [of_decide_eq_true q]⟩
  · intro h
    obtain ⟨p, hp, q⟩ := List.mem_map.mp h
    exact ⟨p, hp, decide_eq_true (he _ _ q)⟩
theorem put_keys (kvs : List (κ × V)) (k : κ) (v : V) : (putK kvs k v).map (fun p => e p.1) = putKs (kvs.map fun p => e p.1) (e k) := by
  unfold putK putKs
  by_cases h : (kvs.any fun kv => decide (kv.1 = k)) = true
  · rw [if_pos h, if_pos ((any_mem e he kvs k).mp h), List.map_map]
    apply List.map_congr_left
    rintro ⟨a, u⟩ _
    show e (if a = k then (a, v) else (a, u)).1 = e a
    split <;> rfl
  · rw [if_neg h, if_neg fun z => h ((any_mem e he kvs k).mpr z), List.map_append]
    rfl
theorem put_valsV : ∀ (kvs : List (κ × V)) (k : κ) (v : V), (kvs.map fun p => e p.1).Nodup → (putK kvs k v).map (·.2) = putVs (kvs.map fun p => e p.1) (kvs.map (·.2)) (e k) v
  | [], k, v, _ => by simp [putK, putVs]
  | (a, u) :: kvs, k, v, nd => by
    rw [List.map_cons, List.nodup_cons] at nd
    by_cases q : a = k
    · subst q
      have hn : ∀ p ∈ kvs, ¬ p.1 = a := fun p hp z => nd.1 (List.mem_map.mpr ⟨p, hp, by rw [z]⟩)
      have e1 : putK ((a, u) :: kvs) a v = (a, v) :: kvs := by
        unfold putK
        rw [if_pos (by simp), List.map_cons]
        simp only [if_true]
        congr 1
        conv => rhs; rw [← List.map_id kvs]
        apply List.map_congr_left
        intro p hp
        rw [if_neg (hn p hp)]; rfl
      rw [e1]
      show v :: kvs.map (·.2) = if e a = e a then v :: kvs.map (·.2) else _
      rw [if_pos rfl]
    · have e1 : putK ((a, u) :: kvs) k v = (a, u) :: putK kvs k v := by
        unfold putK
        rw [List.any_cons, decide_eq_false (show ¬ a = k from q), Bool.false_or]
        by_cases h : (kvs.any fun kv => decide (kv.1 = k)) = true
        · rw [if_pos h, if_pos h, List.map_cons, if_neg q]
        · rw [if_neg h, if_neg h]; rfl
      rw [e1, List.map_cons, put_valsV kvs k v nd.2]
      show u :: _ = if e a = e k then _ else u :: _
      rw [if_neg fun z => q (he _ _ z)]
theorem drop_keys (kvs : List (κ × V)) (k : κ) : (dropK kvs k).map (fun p => e p.1) = delKs (kvs.map fun p => e p.1) (e k) := by
  unfold dropK delKs
  rw [List.filter_map]
  congr 1
  apply List.filter_congr
  rintro ⟨a, u⟩ _
  show decide (a ≠ k) = decide (e a ≠ e k)
  by_cases q : a = k
  · rw [q]; simp
  · rw [decide_eq_true q, decide_eq_true (show e a ≠ e k from fun z => q (he _ _ z))]
theorem drop_valsV : ∀ (kvs : List (κ × V)) (k : κ), (dropK kvs k).map (·.2) = delVs (kvs.map fun p => e p.1) (kvs.map (·.2)) (e k)
  | [], k => rfl
  | (a, u) :: kvs, k => by
    show _ = if e a = e k then delVs (kvs.map fun p => e p.1) (kvs.map (·.2)) (e k) else u :: delVs (kvs.map fun p => e p.1) (kvs.map (·.2)) (e k)
    have ih := drop_valsV kvs k
    unfold dropK at ih ⊢
    by_cases q : a = k
    · rw [if_pos (by rw [q]), List.filter_cons, if_neg (by simp [q]), ih]
    · rw [if_neg fun z => q (he _ _ z), List.filter_cons, if_pos (by simp [q]), List.map_cons, ih]
end
theorem one_inj : ∀ a b : Key, [a] = [b] → a = b := fun a b h => by cases h; rfl
section
variable {T : Tb} {F H : Hp} {t : Bool} {o : HO} {ks : List (List Key)} {vs : List V} {p : Addr} {kv v : V} {kd : D} {k : List Key}
theorem keyF_rep {kv : V} {kd : D} {k : Key} (h : keyF kd = some k) (r : Rep T F kv kd) : kv = kV k := by
  unfold keyF at h
  split at h
  · cases h; exact rep_int r
  · cases h; exact rep_str r
  · cases h
theorem keysF_rep : ∀ {ds : List D} {vs : List V} {k : List Key}, keysF ds = some k → Reps T F vs ds → vs = k.map kV
  | [], _, k, h, .nil => by cases h; rfl
  | d :: ds, _, k, h, .cons r t => by
    unfold keysF at h
    split at h
    · rename_i a b e1 e2
      cases h
      rw [keyF_rep e1 r, keysF_rep e2 t]; rfl
    · cases h
theorem dct_len (d : DctO t o ks vs) : ks.length = vs.length := by
  obtain ⟨_, d⟩ := d
  cases t with
  | false => obtain ⟨kvs, _, rfl, rfl⟩ := d; simp
  | true => obtain ⟨kvs, _, rfl, rfl⟩ := d; simp
theorem dct_get (d : DctO t o ks vs) (h : H p = some o) (r : Rep T H kv kd) (hk : keyO t kd = some k) : DGet H p kv (getK ks vs k) := by
  obtain ⟨nd, d⟩ := d
  cases t with
  | false =>
    obtain ⟨kvs, rfl, rfl, rfl⟩ := d
    have hk : (keyF kd).map (fun k => [k]) = some k := hk
    cases e : keyF kd with
    | none => rw [e] at hk; cases hk
    | some x =>
      rw [e] at hk
      cases hk
      rw [keyF_rep e r, ← val_get (fun a => [a]) one_inj]
      exact DGet.k h
  | true =>
    obtain ⟨kvs, rfl, rfl, rfl⟩ := d
    unfold keyO at hk
    split at hk
    · obtain ⟨b, vs', rfl, hb, rr⟩ := rep_tup r
      have ev := keysF_rep hk rr
      subst ev
      have := DGet.t (k := k) h hb
      rw [val_get (fun a => a) (fun _ _ z => z)] at this
      exact this
    · cases hk
    · contradiction
theorem dct_put (d : DctO t o ks vs) (h : H p = some o) (r : Rep T H kv kd) (hk : keyO t kd = some k) (hl : ks.length < sizeLine) (v : V) : ∃ o', DPut H p kv v (upd H p o') ∧ DctO t o' (putKs ks k) (putVs ks vs k v) := by
  obtain ⟨nd, d⟩ := d
  cases t with
  | false =>
    obtain ⟨kvs, rfl, rfl, rfl⟩ := d
    have hk : (keyF kd).map (fun k => [k]) = some k := hk
    cases e : keyF kd with
    | none => rw [e] at hk; cases hk
    | some x =>
      rw [e] at hk
      cases hk
      rw [keyF_rep e r]
      exact ⟨_, DPut.k h (by simpa using hl), putKs_nodup nd, _, rfl, (put_keys (fun a => [a]) one_inj kvs x v).symm, (put_valsV (fun a => [a]) one_inj kvs x v nd).symm⟩
  | true =>
    obtain ⟨kvs, rfl, rfl, rfl⟩ := d
    unfold keyO at hk
    split at hk
    · obtain ⟨b, vs', rfl, hb, rr⟩ := rep_tup r
      have ev := keysF_rep hk rr
      subst ev
      exact ⟨_, DPut.t (k := k) h hb (by simpa using hl), putKs_nodup nd, _, rfl, (put_keys (fun a => a) (fun _ _ z => z) kvs k v).symm, (put_valsV (fun a => a) (fun _ _ z => z) kvs k v nd).symm⟩
    · cases hk
    · contradiction
end
end Vl
/-! Places: objects within an own tree, and what is done to them. -/
namespace Vl
open PySem PySem.Spec PyProof.Rows L2

/-- u is the root of the subtree k of the tree m at v; c k' is that tree with k' in its stead -/
structure Sub (T : Tb) (F H : Hp) (v : V) (m : M) (A : List Addr) (u : V) (k : M) (B : List Addr) (c : M → M) : Prop where
  ow : Own T F H u k B
  sub : ∀ a ∈ B, a ∈ A
  re : ∀ (N : Addr → Prop) (F' H' : Hp) (k' : M) (B' : List Addr), (∀ a, N a → a ∉ A) → Same F F' → (∀ a, a ∉ B → H a ≠ none → NT H' a → F' a = F a) → (∀ a, a ∉ B → H a ≠ none → H' a = H a) → Own T F' H' u k' B' → (∀ a ∈ B', a ∈ B ∨ N a) → ∃ A', Own T F' H' v (c k') A' ∧ ∀ a ∈ A', a ∈ A ∨ N a
section
variable {T : Tb} {F F' F2 H H' H2 : Hp} {v u u' : V} {m k k' : M} {A B B' : List Addr} {c c' : M → M} {vs : List V} {ms : List M}
theorem Sub.self (o : Own T F H v m A) : Sub T F H v m A v m A fun x => x :=
  ⟨o, fun _ q => q, fun N F' H' k' B' _ _ _ _ o' h => ⟨B', o', h⟩⟩
theorem Sub.trans (S : Sub T F H v m A u k B c) (S' : Sub T F H u k B u' k' B' c') : Sub T F H v m A u' k' B' fun x => c (c' x) :=
  ⟨S'.ow, fun a q => S.sub a (S'.sub a q), fun N F' H' k2 B2 hN sF nF fr o h => by
    obtain ⟨B3, o3, h3⟩ := S'.re N F' H' k2 B2 (fun a n q => hN a n (S.sub a q)) sF nF fr o h
    exact S.re N F' H' _ B3 hN sF (fun a n q t => nF a (fun z => n (S'.sub a z)) q t) (fun a n q => fr a (fun z => n (S'.sub a z)) q) o3 h3⟩
theorem Sub.go (S : Sub T F H v m A u k B c) (g : Go F H F2 H2) : Sub T F2 H2 v m A u k B c :=
  ⟨S.ow.go g, S.sub, fun N F' H' k2 B2 hN sF nF fr o h => S.re N F' H' k2 B2 hN (g.f.trans sF) (fun a z q n => (nF a z (Same.nn g.h q) n).trans (g.n a q ((n.at (fr a z (Same.nn g.h q)).symm).back g.h))) (fun a n q => (fr a n (Same.nn g.h q)).trans (Same.at g.h q)) o h⟩
theorem Owns.get : ∀ {vs : List V} {ms : List M} {A : List Addr} {j : Nat} {k : M}, Owns T F H vs ms A → ms[j]? = some k → ∃ u B, vs[j]? = some u ∧ Own T F H u k B ∧ (∀ a ∈ B, a ∈ A) ∧
    ∀ (N : Addr → Prop) (F' H' : Hp) (k' : M) (B' : List Addr), (∀ a, N a → a ∉ A) → Same F F' → (∀ a, a ∉ B → H a ≠ none → NT H' a → F' a = F a) → (∀ a, a ∉ B → H a ≠ none → H' a = H a) → Own T F' H' u k' B' → (∀ a ∈ B', a ∈ B ∨ N a) → ∃ A', Owns T F' H' vs (ms.set j k') A' ∧ ∀ a ∈ A', a ∈ A ∨ N a
  | _, _, _, _, _, .nil, h => by simp at h
  | _, _, _, 0, _, .cons (v := v) (m := m) (A := A) (B := B) o t d, h => by
    simp at h; subst h
    refine ⟨_, _, rfl, o, fun a q => List.mem_append_left _ q, fun N F' H' k' B' hN sF nF fr o' h' => ?_⟩
    have t' : Owns T F' H' _ _ B := t.keep sF (fun a q => fr a (fun z => d a z q) (t.mem a q).1) fun a q n => (nF a (fun z => d a z q) (t.mem a q).1 (n.at (fr a (fun z => d a z q) (t.mem a q).1))).trans ((t.mem a q).2 n)
    refine ⟨B' ++ B, .cons o' t' fun a q z => ?_, fun a q => ?_⟩
    · rcases h' a q with y | y
      · exact d a y z
      · exact hN a y (List.mem_append_right _ z)
    · rcases List.mem_append.mp q with q | q
      · rcases h' a q with y | y
        · exact .inl (List.mem_append_left _ y)
        · exact .inr y
      · exact .inl (List.mem_append_right _ q)
  | _, _, _, j + 1, _, .cons (v := v) (m := m) (A := A) (B := B) o t d, h => by
    obtain ⟨u, C, h1, h2, h3, h4⟩ := Owns.get (j := j) t (by simpa using h)
    refine ⟨u, C, by simpa using h1, h2, fun a q => List.mem_append_right _ (h3 a q), fun N F' H' k' B' hN sF nF fr o' h' => ?_⟩
    obtain ⟨B2, t2, hB2⟩ := h4 N F' H' k' B' (fun a n q => hN a n (List.mem_append_right _ q)) sF nF fr o' h'
    have o2 : Own T F' H' _ _ A := o.keep sF (fun a q => fr a (fun z => d a q (h3 a z)) (o.mem a q).1) fun a q n => (nF a (fun z => d a q (h3 a z)) (o.mem a q).1 (n.at (fr a (fun z => d a q (h3 a z)) (o.mem a q).1))).trans ((o.mem a q).2 n)
    refine ⟨A ++ B2, .cons o2 t2 fun a q z => ?_, fun a q => ?_⟩
    · rcases hB2 a z with y | y
      · exact d a q y
      · exact hN a y (List.mem_append_left _ q)
    · rcases List.mem_append.mp q with q | q
      · exact .inl (List.mem_append_left _ q)
      · rcases hB2 a q with y | y
        · exact .inl (List.mem_append_right _ y)
        · exact .inr y
theorem sub_ti {cn j : Nat} (o : Own T F H v (.ti cn ms) A) (h : ms[j]? = some k) : ∃ p dx vs u B, v = .ref p ∧ H p = some (.ins (T.cl cn) dx ((T.fs cn).zip vs)) ∧ (T.fs cn).length = vs.length ∧ vs[j]? = some u ∧ Sub T F H v (.ti cn ms) A u k B fun x => .ti cn (ms.set j x) := by
  obtain ⟨p, dx, vs, C, rfl, rfl, hp, hf, hl, hn, t⟩ := own_ti o
  obtain ⟨u, B, h1, h2, h3, h4⟩ := t.get h
  refine ⟨p, dx, vs, u, B, rfl, hp, hl, h1, h2, fun a q => List.mem_cons_of_mem _ (h3 a q), fun N F' H' k' B' hN sF nF fr o' h' => ?_⟩
  obtain ⟨C', t', hC'⟩ := h4 N F' H' k' B' (fun a n q => hN a n (List.mem_cons_of_mem _ q)) sF nF fr o' h'
  have pB : p ∉ B := fun q => hn (h3 p q)
  have hp0 : H p ≠ none := by rw [hp]; simp
  refine ⟨p :: C', .ti ((fr p pB hp0).trans hp) ((nF p pB hp0 (nt_of ((fr p pB hp0).trans hp))).trans hf) hl (fun q => ?_) t', fun a q => ?_⟩
  · rcases hC' p q with y | y
    · exact hn y
    · exact hN p y List.mem_cons_self
  · rcases List.mem_cons.mp q with q | q
    · rw [q]; exact .inl List.mem_cons_self
    · rcases hC' a q with y | y
      · exact .inl (List.mem_cons_of_mem _ y)
      · exact .inr y
theorem sub_tl {j : Nat} (o : Own T F H v (.tl ms) A) (h : ms[j]? = some k) : ∃ p vs u B, v = .ref p ∧ H p = some (.lst vs) ∧ vs.length = ms.length ∧ vs[j]? = some u ∧ Sub T F H v (.tl ms) A u k B fun x => .tl (ms.set j x) := by
  obtain ⟨p, vs, C, rfl, rfl, hp, hf, hn, t⟩ := own_tl o
  obtain ⟨u, B, h1, h2, h3, h4⟩ := t.get h
  refine ⟨p, vs, u, B, rfl, hp, t.length, h1, h2, fun a q => List.mem_cons_of_mem _ (h3 a q), fun N F' H' k' B' hN sF nF fr o' h' => ?_⟩
  obtain ⟨C', t', hC'⟩ := h4 N F' H' k' B' (fun a n q => hN a n (List.mem_cons_of_mem _ q)) sF nF fr o' h'
  have pB : p ∉ B := fun q => hn (h3 p q)
  have hp0 : H p ≠ none := by rw [hp]; simp
  refine ⟨p :: C', .tl ((fr p pB hp0).trans hp) ((nF p pB hp0 (nt_of ((fr p pB hp0).trans hp))).trans hf) (fun q => ?_) t', fun a q => ?_⟩
  · rcases hC' p q with y | y
    · exact hn y
    · exact hN p y List.mem_cons_self
  · rcases List.mem_cons.mp q with q | q
    · rw [q]; exact .inl List.mem_cons_self
    · rcases hC' a q with y | y
      · exact .inl (List.mem_cons_of_mem _ y)
      · exact .inr y
theorem sub_tp {j : Nat} (o : Own T F H v (.tp ms) A) (h : ms[j]? = some k) : ∃ p vs u B, v = .ref p ∧ H p = some (.tup vs) ∧ vs.length = ms.length ∧ vs[j]? = some u ∧ Sub T F H v (.tp ms) A u k B fun x => .tp (ms.set j x) := by
  obtain ⟨p, vs, C, rfl, rfl, hp, hn, t⟩ := own_tp o
  obtain ⟨u, B, h1, h2, h3, h4⟩ := t.get h
  refine ⟨p, vs, u, B, rfl, hp, t.length, h1, h2, fun a q => List.mem_cons_of_mem _ (h3 a q), fun N F' H' k' B' hN sF nF fr o' h' => ?_⟩
  obtain ⟨C', t', hC'⟩ := h4 N F' H' k' B' (fun a n q => hN a n (List.mem_cons_of_mem _ q)) sF nF fr o' h'
  have pB : p ∉ B := fun q => hn (h3 p q)
  have hp0 : H p ≠ none := by rw [hp]; simp
  refine ⟨p :: C', .tp ((fr p pB hp0).trans hp) (fun q => ?_) t', fun a q => ?_⟩
  · rcases hC' p q with y | y
    · exact hn y
    · exact hN p y List.mem_cons_self
  · rcases List.mem_cons.mp q with q | q
    · rw [q]; exact .inl List.mem_cons_self
    · rcases hC' a q with y | y
      · exact .inl (List.mem_cons_of_mem _ y)
      · exact .inr y
theorem getK_at {α : Type} : ∀ {ks : List (List Key)} {xs : List α} {k : List Key} {x : α}, getK ks xs k = some x → k ∈ ks ∧ ∃ j, xs[j]? = some x ∧ (∀ y, putVs ks xs k y = xs.set j y) ∧ ∀ (β : Type) (ys : List β), ys.length = xs.length → getK ks ys k = ys[j]?
  | [], _, _, _, h => by cases h
  | _ :: _, [], _, _, h => by cases h
  | a :: ks, z :: xs, k, x, h => by
    by_cases e : a = k
    · have h : (if a = k then some z else getK ks xs k) = some x := h
      rw [if_pos e] at h
      cases h
      refine ⟨by rw [e]; exact List.mem_cons_self, 0, rfl, fun y => ?_, fun β ys hl => ?_⟩
      · show (if a = k then y :: xs else _) = _
        rw [if_pos e]; rfl
      · cases ys with
        | nil => cases hl
        | cons y ys =>
          show (if a = k then some y else _) = _
          rw [if_pos e]; rfl
    · have h : (if a = k then some z else getK ks xs k) = some x := h
      rw [if_neg e] at h
      obtain ⟨h1, j, h2, h3, h4⟩ := getK_at h
      refine ⟨List.mem_cons_of_mem _ h1, j + 1, by simpa using h2, fun y => ?_, fun β ys hl => ?_⟩
      · show (if a = k then y :: xs else z :: putVs ks xs k y) = _
        rw [if_neg e, h3 y]; rfl
      · cases ys with
        | nil => cases hl
        | cons y ys =>
          show (if a = k then some y else getK ks ys k) = _
          rw [if_neg e, h4 β ys (by simpa using hl)]; rfl
theorem sub_td {t : Bool} {ks : List (List Key)} {key : List Key} (o : Own T F H v (.td t ks ms) A) (h : getK ks ms key = some k) : ∃ p ob vs u B, v = .ref p ∧ H p = some ob ∧ DctO t ob ks vs ∧ getK ks vs key = some u ∧ Sub T F H v (.td t ks ms) A u k B fun x => .td t ks (putVs ks ms key x) := by
  obtain ⟨p, ob, vs, C, rfl, rfl, hp, hf, hd, hn, tt⟩ := own_td o
  obtain ⟨hk, j, h0, hset, hget⟩ := getK_at h
  obtain ⟨u, B, h1, h2, h3, h4⟩ := tt.get h0
  refine ⟨p, ob, vs, u, B, rfl, hp, hd, by rw [hget _ vs tt.length]; exact h1, h2, fun a q => List.mem_cons_of_mem _ (h3 a q), fun N F' H' k' B' hN sF nF fr o' h' => ?_⟩
  obtain ⟨C', t', hC'⟩ := h4 N F' H' k' B' (fun a n q => hN a n (List.mem_cons_of_mem _ q)) sF nF fr o' h'
  have pB : p ∉ B := fun q => hn (h3 p q)
  have hp0 : H p ≠ none := by rw [hp]; simp
  refine ⟨p :: C', ?_, fun a q => ?_⟩
  · show Own T F' H' (.ref p) (.td t ks (putVs ks ms key k')) _
    rw [hset]
    refine .td ((fr p pB hp0).trans hp) ((nF p pB hp0 (nt_of ((fr p pB hp0).trans hp) (dctO_nt hd))).trans hf) hd (fun q => ?_) t'
    rcases hC' p q with y | y
    · exact hn y
    · exact hN p y List.mem_cons_self
  · rcases List.mem_cons.mp q with q | q
    · rw [q]; exact .inl List.mem_cons_self
    · rcases hC' a q with y | y
      · exact .inl (List.mem_cons_of_mem _ y)
      · exact .inr y
end
/-! ### expressions that name a place -/
abbrev AP := List AV → (Nat → (M → M) → M → Prop) → Prop
def apV (i : Nat) : AP := fun δ P => match gt δ i with
  | .ow _ m => P i (fun x => x) m
  | _ => False
def apFld (cn j : Nat) (a : AP) : AP := fun δ P => a δ fun i c k => match k with
  | .ti c' ms => c' = cn ∧ match ms[j]? with
    | some x => P i (fun y => c (.ti c' (ms.set j y))) x
    | none => False
  | _ => False
def apIx (a : AP) (e : AE) : AP := fun δ P => a δ fun i c k => e δ fun w => match k, w with
  | .tl ms, .cl (.int z) => match ixN ms.length z with
    | some j => match ms[j]? with
      | some x => P i (fun y => c (.tl (ms.set j y))) x
      | none => False
    | none => False
  | _, _ => False
def apKey (a : AP) (e : AE) : AP := fun δ P => a δ fun i c k => e δ fun w => match k, clW w with
  | .td t ks ms, some kd => match keyO t kd with
    | some key => match getK ks ms key with
      | some x => P i (fun y => c (.td t ks (putVs ks ms key y))) x
      | none => False
    | none => False
  | _, _ => False
def rdP (T : Tb) (a : AP) : TE := fun σ H Q => ∃ G F δ P, RepS T G F H σ δ ∧ a δ P ∧ ∀ i c k, P i c k → ∀ F' H', Go F H F' H' → ∀ l m v A u B, gt δ i = .ow l m → gs σ i = some v → Own T F' H' v m A → Sub T F' H' v m A u k B c → Q u H'
/-- the slot's tree is another one -/
def setP (δ : List AV) (i : Nat) (m : M) : List AV := match gt δ i with
  | .ow l _ => δ.set i (.ow l m)
  | _ => δ
section
variable {T : Tb} {X : Cx} {G : Gx} {F F1 F2 H H1 H2 : Hp} {σ : L2.St} {δ : List AV} {e o : Expr} {x : AE} {pl : AP} {pos : Pos} {cn j i : Nat} {f s : Str} {l : Bool} {m k k' : M} {v u : V} {A B B' : List Addr} {c : M → M}
theorem e_pV (i : Nat) (hN : X.N[i]? = some s := by rfl) (hv : Vis X.env.scope s := by first | exact Or.inl rfl | exact Or.inr (Or.inl rfl) | exact Or.inr (Or.inr rfl)) (hd : (s == ("__debug__" : Str)) = false := by decide)
    (hcd : (s == ("__classdict__" : Str)) = false := by decide) : PE X (.Name s pos) (rdP T (apV i)) := by
  refine (pe_var hN hv hd hcd).mono fun σ H Q h => ?_
  obtain ⟨G, F, δ, P, R, h, k⟩ := h
  unfold apV at h
  split at h
  · rename_i l m hg
    obtain ⟨v, A, e, o, _⟩ := R.own hg
    exact ⟨v, gs_some e, k _ _ _ h F H (Go.refl R.ex) l m v A v A hg e o (Sub.self o)⟩
  · exact h.elim
theorem e_pFld (hTK : T.K = X.K) (hC : Cls X.K (T.cl cn)) (hn : NoAttr X.K (T.cl cn) f) (hd : (T.fs cn).Nodup) (hj : (T.fs cn)[j]? = some f) (he : PE X e (rdP T pl)) (hb : attributeBase e f X.env (eval e X.env) = eval e X.env := by rfl) :
    PE X (.Attribute e f pos) (rdP T (apFld cn j pl)) := (pe_fld he hb).mono fun σ H Q h => by
  obtain ⟨G, F, δ, P, R, h, k⟩ := h
  refine ⟨G, F, δ, _, R, h, fun i c kk hw F1 H1 g l m v A u B e1 e2 o S => ?_⟩
  split at hw
  · rename_i c' ms
    obtain ⟨rfl, hw⟩ := hw
    split at hw
    · rename_i y hy
      obtain ⟨p, dx, vs, u', B', rfl, hp, hl, hu, S'⟩ := sub_ti S.ow hy
      exact ⟨p, _, dx, _, u', rfl, hp, hC, hn, lookup_zip hd hj hu, k _ _ _ hw F1 H1 g l m v A u' B' e1 e2 o (S.trans S')⟩
    · exact hw.elim
  · exact hw.elim
theorem e_pIx (hTK : T.K = X.K) (ho : PE X o (rdP T pl)) (hi : PE X e (rdE T x)) (hs : PlainIx e) : PE X (.Subscript o e pos) (rdP T (apIx pl x)) := (pe_ix ix_seq ho hi hs).mono fun σ H Q h => by
  obtain ⟨G, F, δ, P, R, h, k⟩ := h
  refine ⟨G, F, δ, _, R, h, fun i c kk hw F1 H1 g l m v A u B e1 e2 o S => ?_⟩
  refine ⟨G, F1, δ, _, R.go g, hw, fun w hz v2 F2 H2 g2 r2 => ?_⟩
  clear hw
  have S2 := S.go g2
  split at hz
  · rename_i ms z
    split at hz
    · rename_i j hj
      split at hz
      · rename_i y hy
        obtain ⟨p, vs, u', B', rfl, hp, hl, hu, S'⟩ := sub_tl S2.ow hy
        refine .inl ⟨p, vs, z, u', rfl, rep_int r2, hTK ▸ SqL.of hp, ?_, k _ _ _ hz F2 H2 (g.trans g2) l m v A u' B' e1 e2 (o.go g2) (S2.trans S')⟩
        unfold atI
        rw [hl, hj]; exact hu
      · exact hz.elim
    · exact hz.elim
  · exact hz.elim
theorem e_pKey (hu : X.A.units + 1 < cLine) (ho : PE X o (rdP T pl)) (hi : PE X e (rdE T x)) (hs : NoSl e) : PE X (.Subscript o e pos) (rdP T (apKey pl x)) := (pe_dget hu ho hi hs).mono fun σ H Q h => by
  obtain ⟨G, F, δ, P, R, h, k⟩ := h
  refine ⟨G, F, δ, _, R, h, fun i c kk hw F1 H1 g l m v A u B e1 e2 o S => ?_⟩
  refine ⟨G, F1, δ, _, R.go g, hw, fun w hz v2 F2 H2 g2 r2 => ?_⟩
  clear hw
  split at hz
  · rename_i t ks ms kd hkd
    split at hz
    · rename_i key hk
      split at hz
      · rename_i y hy
        obtain ⟨F3, g3, r3⟩ := clW_rep g2 r2 hkd
        have S3 := S.go g3
        obtain ⟨p, ob, vs, u', B', rfl, hp, hd, hu', S'⟩ := sub_td S3.ow hy
        refine ⟨p, u', rfl, ?_, k _ _ _ hz F3 H2 (g.trans g3) l m v A u' B' e1 e2 (o.go g3) (S3.trans S')⟩
        rw [← hu']
        exact dct_get hd hp (Rep.mono g3.ex r3) hk
      · exact hz.elim
    · exact hz.elim
  · exact hz.elim
/-- a place has been changed -/
theorem RepS.plc (R : RepS T G F H σ δ) (g : Go F H F1 H1) (e : gt δ i = .ow l m) (hv : gs σ i = some v) (hA : Own T F1 H1 v m A) (S : Sub T F1 H1 v m A u k B c) (ex : Same F2 H2) (sF : Same F1 F2) (nF : ∀ a, a ∉ B → H1 a ≠ none → NT H2 a → F2 a = F1 a)
    (fr : ∀ a, a ∉ B → H1 a ≠ none → H2 a = H1 a) (th : ∀ a, H1 a ≠ none → H2 a ≠ none) (o : Own T F2 H2 u k' B') (hB : ∀ a ∈ B', a ∈ B ∨ H a = none) : RepS T G F2 H2 σ (setP δ i (c k')) := by
  obtain ⟨v0, A0, q1, q2, _⟩ := R.own e
  rw [hv] at q1; cases q1
  cases Own.det hA (q2.go g)
  obtain ⟨A', o', hA'⟩ := S.re (fun a => H a = none) F2 H2 k' B' (fun a n q => (q2.mem a q).1 n) sF nF fr o hB
  unfold setP
  rw [e]
  exact R.step g e hv hA ex sF (fun a n q t => nF a (fun z => n (S.sub a z)) q t) (fun a n q => fr a (fun z => n (S.sub a z)) q) th o' hA'
end
/-! ### a place is changed -/
def aMutP (ty : String) (pl : AP) (f : FM) (es : AA) : AS := fun E δ => pl δ fun i c k => tyM k = ty ∧ es δ fun ws => f k ws fun k' _ => E.nx (setP δ i (c k'))
/-- what moves into a tree -/
def kidW : W → Option M
  | .cl d => some (.cl d)
  | .fr m => some m
  | _ => none
def aFSet (cn j : Nat) (pl : AP) (e : AE) : AS := fun E δ => e δ fun w => pl δ fun i c k => match k, kidW w with
  | .ti c' ms, some x => (c' = cn ∧ j < ms.length) ∧ E.nx (setP δ i (c (.ti c' (ms.set j x))))
  | _, _ => False
def putM : M → List Key → M → Option M
  | .fd t ks ds, k, .cl d => some (.fd t (putKs ks k) (putVs ks ds k d))
  | .td t ks ms, k, x => some (.td t (putKs ks k) (putVs ks ms k x))
  | .fd t [] [], k, x => some (.td t [k] [x])
  | _, _, _ => none
def dctM : M → Option (Bool × List (List Key))
  | .fd t ks _ => some (t, ks)
  | .td t ks _ => some (t, ks)
  | _ => none
def aDPutP (pl : AP) (ky e : AE) : AS := fun E δ => e δ fun w => pl δ fun i c k => ky δ fun z => match kidW w, clW z, dctM k with
  | some x, some kd, some (t, ks) => ks.length < 1000000 ∧ match keyO t kd with
    | some key => match putM k key x with
      | some k' => E.nx (setP δ i (c k'))
      | none => False
    | none => False
  | _, _, _ => False
section
variable {T : Tb} {F H : Hp}
theorem putF_set {fs : List Str} : ∀ {vs : List V} {j : Nat} {f : Str} {v : V}, fs.Nodup → fs.length = vs.length → fs[j]? = some f → putF f v (fs.zip vs) = fs.zip (vs.set j v) := by
  induction fs with
  | nil => intro vs j f v _ _ h; simp at h
  | cons g fs ih =>
    intro vs j f v nd hl h
    cases vs with
    | nil => cases hl
    | cons w vs =>
      cases j with
      | zero =>
        simp at h; subst h
        show (if g = g then _ else _) = _
        rw [if_pos rfl]; rfl
      | succ j =>
        have hf : f ∈ fs := List.mem_of_getElem? (by simpa using h)
        have ne : g ≠ f := fun e => (List.nodup_cons.mp nd).1 (e ▸ hf)
        show (if g = f then _ else (g, w) :: putF f v (fs.zip vs)) = _
        rw [if_neg ne, ih (List.nodup_cons.mp nd).2 (by simpa using hl) (by simpa using h)]
        rfl
theorem Owns.setD {N : Addr → Prop} : ∀ {vs : List V} {ms : List M} {A : List Addr} {j : Nat} {v : V} {m : M} {B : List Addr}, Owns T F H vs ms A → Own T F H v m B → (∀ a ∈ B, N a) → (∀ a, N a → a ∉ A) → ∃ A', Owns T F H (vs.set j v) (ms.set j m) A' ∧ ∀ a ∈ A', a ∈ A ∨ N a
  | _, _, _, _, _, _, _, .nil, _, _, _ => ⟨[], .nil, fun a q => nomatch q⟩
  | _, _, _, 0, v, m, B, .cons (A := A1) (B := B1) o t d, o', hB, hN => by
    refine ⟨B ++ B1, .cons o' t fun a q z => hN a (hB a q) (List.mem_append_right _ z), fun a q => ?_⟩
    rcases List.mem_append.mp q with q | q
    · exact .inr (hB a q)
    · exact .inl (List.mem_append_right _ q)
  | _, _, _, j + 1, v, m, B, .cons (A := A1) (B := B1) o t d, o', hB, hN => by
    obtain ⟨B2, t2, h2⟩ := Owns.setD (j := j) t o' hB fun a n q => hN a n (List.mem_append_right _ q)
    refine ⟨A1 ++ B2, .cons o t2 fun a q z => ?_, fun a q => ?_⟩
    · rcases h2 a z with y | y
      · exact d a q y
      · exact hN a y (List.mem_append_left _ q)
    · rcases List.mem_append.mp q with q | q
      · exact .inl (List.mem_append_left _ q)
      · rcases h2 a q with y | y
        · exact .inl (List.mem_append_right _ y)
        · exact .inr y
theorem Owns.snoc {N : Addr → Prop} : ∀ {vs : List V} {ms : List M} {A : List Addr} {v : V} {m : M} {B : List Addr}, Owns T F H vs ms A → Own T F H v m B → (∀ a ∈ B, N a) → (∀ a, N a → a ∉ A) → ∃ A', Owns T F H (vs ++ [v]) (ms ++ [m]) A' ∧ ∀ a ∈ A', a ∈ A ∨ N a
  | _, _, _, v, m, B, .nil, o', hB, hN => ⟨B ++ [], Owns.cons o' Owns.nil fun a q z => (nomatch z), fun a q => .inr (hB a (by simpa using q))⟩
  | _, _, _, v, m, B, .cons (A := A1) (B := B1) o t d, o', hB, hN => by
    obtain ⟨B2, t2, h2⟩ := Owns.snoc t o' hB fun a n q => hN a n (List.mem_append_right _ q)
    refine ⟨A1 ++ B2, .cons o t2 fun a q z => ?_, fun a q => ?_⟩
    · rcases h2 a z with y | y
      · exact d a q y
      · exact hN a y (List.mem_append_left _ q)
    · rcases List.mem_append.mp q with q | q
      · exact .inl (List.mem_append_left _ q)
      · rcases h2 a q with y | y
        · exact .inl (List.mem_append_right _ y)
        · exact .inr y
theorem putVs_or {α : Type} : ∀ (ks : List (List Key)) (xs : List α) (k : List Key), ks.length = xs.length → (∃ j, ∀ (β : Type) (ys : List β) (v : β), ys.length = xs.length → putVs ks ys k v = ys.set j v) ∨ ∀ (β : Type) (ys : List β) (v : β), ys.length = xs.length → putVs ks ys k v = ys ++ [v]
  | [], [], k, _ => .inr fun β ys v h => by
    cases ys with
    | nil => rfl
    | cons _ _ => cases h
  | [], _ :: _, _, h => by simp at h
  | _ :: _, [], _, h => by simp at h
  | a :: ks, x :: xs, k, h => by
    by_cases e : a = k
    · refine .inl ⟨0, fun β ys v hl => ?_⟩
      cases ys with
      | nil => cases hl
      | cons y ys =>
        show (if a = k then v :: ys else _) = _
        rw [if_pos e]; rfl
    · rcases putVs_or ks xs k (by simpa using h) with ⟨j, hj⟩ | hj
      · refine .inl ⟨j + 1, fun β ys v hl => ?_⟩
        cases ys with
        | nil => cases hl
        | cons y ys =>
          show (if a = k then v :: ys else y :: putVs ks ys k v) = _
          rw [if_neg e, hj β ys v (by simpa using hl)]; rfl
      · refine .inr fun β ys v hl => ?_
        cases ys with
        | nil => cases hl
        | cons y ys =>
          show (if a = k then v :: ys else y :: putVs ks ys k v) = _
          rw [if_neg e, hj β ys v (by simpa using hl)]; rfl
theorem Owns.putVs {N : Addr → Prop} {vs : List V} {ms : List M} {A B : List Addr} {ks : List (List Key)} {k : List Key} {v : V} {m : M} (hl : ks.length = vs.length) (t : Owns T F H vs ms A) (o : Own T F H v m B) (hB : ∀ a ∈ B, N a) (hN : ∀ a, N a → a ∉ A) :
    ∃ A', Owns T F H (putVs ks vs k v) (Vl.putVs ks ms k m) A' ∧ ∀ a ∈ A', a ∈ A ∨ N a := by
  rcases putVs_or ks vs k hl with ⟨j, hj⟩ | hj
  · rw [hj _ vs v rfl, hj _ ms m t.length.symm]
    exact t.setD o hB hN
  · rw [hj _ vs v rfl, hj _ ms m t.length.symm]
    exact t.snoc o hB hN
theorem Reps.putVs {vs : List V} {ds : List D} {ks : List (List Key)} {k : List Key} {v : V} {d : D} (hl : ks.length = vs.length) (t : Reps T F vs ds) (r : Rep T F v d) : Reps T F (putVs ks vs k v) (Vl.putVs ks ds k d) := by
  rcases putVs_or ks vs k hl with ⟨j, hj⟩ | hj
  · rw [hj _ vs v rfl, hj _ ds d t.length.symm]
    exact t.set j r
  · rw [hj _ vs v rfl, hj _ ds d t.length.symm]
    exact t.snoc r
end
section
variable {T : Tb} {X : Cx} {G : Gx} {F F1 F2 H H1 H2 : Hp} {σ : L2.St} {δ : List AV} {e o ki : Expr} {x kk : AE} {xs : AA} {pl : AP} {pos pos' : Pos} {cn j i : Nat} {f s : Str} {l : Bool} {m k k' : M} {v u : V} {A B B' : List Addr} {c : M → M} {st : Stmt} {K : PySem.W.Frag} {Ty : String} {r : V → List V → Hp → VK → Prop} {fm : FM}
theorem s_mutP (hf : MutV T r fm) (hTK : T.K = K) (h : PS X st (tDrop (tBM K Ty r (rdP T pl) (rdA T xs)))) (hT : Ty ≠ "" := by decide) : PS X st (rdS T (aMutP Ty pl fm xs)) := h.mono fun D' σ H h => by
  obtain ⟨G, F, δ, E, R, h, k⟩ := h
  refine ⟨G, F, δ, _, R, h, fun i c kk hw F1 H1 g l m v A u B e1 e2 o S => ?_⟩
  obtain ⟨ht, hw⟩ := hw
  refine ⟨ty_own S.ow ht hT, G, F1, δ, _, R.go g, hw, fun ws hw vs F2 H2 g2 ra => ?_⟩
  have S2 := S.go g2
  have g12 := g.trans g2
  refine hf G F2 H2 u kk B vs ws _ _ g2.ex S2.ow ra hw fun k' d hP z H' B' ch o' hB' rz => ?_
  exact k.nx _ hP F2 H' σ g12.f (R.plc g12 e1 e2 (o.go g2) S2 ch.ex (Same.refl _) (fun _ _ _ _ => rfl) ch.fr ch.th o' fun a q => .inl (hB' a q))
theorem s_mutP0 (hf : MutV T r fm) (h : PS X st (tDrop (tBM0 K Ty r (rdP T pl)))) (hT : Ty ≠ "" := by decide) : PS X st (rdS T (aMutP Ty pl fm aNil)) := h.mono fun D' σ H h => by
  obtain ⟨G, F, δ, E, R, h, k⟩ := h
  refine ⟨G, F, δ, _, R, h, fun i c kk hw F1 H1 g l m v A u B e1 e2 o S => ?_⟩
  obtain ⟨ht, hw⟩ := hw
  refine ⟨ty_own S.ow ht hT, ?_⟩
  refine hf G F1 H1 u kk B [] [] _ _ g.ex S.ow .nil hw fun k' d hP z H' B' ch o' hB' rz => ?_
  exact k.nx _ hP F1 H' σ g.f (R.plc g e1 e2 o S ch.ex (Same.refl _) (fun _ _ _ _ => rfl) ch.fr ch.th o' fun a q => .inl (hB' a q))
/-- what moves in: its objects are new -/
theorem kid_own {F' H' : Hp} {w : W} {x : M} (g : Go F H F' H') (rw : RepW T G H F' H' v w) (hk : kidW w = some x) : ∃ B, Own T F' H' v x B ∧ ∀ a ∈ B, H a = none := by
  cases w with
  | cl d => cases hk; exact ⟨[], .cl rw, fun a q => nomatch q⟩
  | fr m => cases hk; exact rw
  | bw m => cases hk
  | ow m => cases hk
theorem s_fset (hTK : T.K = X.K) (hC : Cls X.K (T.cl cn)) (hn : NoAttr X.K (T.cl cn) f) (hd : (T.fs cn).Nodup) (hj : (T.fs cn)[j]? = some f) (hsm : (T.fs cn).length < 1000) (ho : PE X o (rdP T pl)) (hv : PE X e (rdE T x)) (hs : swapsWith e (some (.Attribute o f pos')) pos.line X.env = pure false := by rfl) :
    PS X (.Assign [.Attribute o f pos'] e pos) (rdS T (aFSet cn j pl x)) := (ps_fld ho hv hs).mono fun D' σ H h => by
  obtain ⟨G, F, δ, E, R, h, k⟩ := h
  refine ⟨G, F, δ, _, R, h, fun w hw y F1 H1 g r1 => ?_⟩
  refine ⟨G, F1, δ, _, R.go g, hw, fun i c kk hz F2 H2 g2 l m v A u B e1 e2 o S => ?_⟩
  clear hw
  split at hz
  · rename_i c' ms x hk
    obtain ⟨⟨rfl, hlt⟩, hz⟩ := hz
    obtain ⟨p, dx, vs, C, rfl, rfl, hp, hf, hl, hnC, t⟩ := own_ti S.ow
    obtain ⟨D, od, hD⟩ := kid_own (g.trans g2) (r1.go g2) hk
    have g12 := g.trans g2
    refine ⟨p, _, dx, _, rfl, hp, hC, hn, by rw [List.length_zip]; omega, ?_⟩
    rw [putF_set hd hl hj]
    have R2 := R.go g12
    have cu := chg_upd (A := p :: C) (o := .ins (T.cl c') dx ((T.fs c').zip (vs.set j y))) R2.ex List.mem_cons_self hf
    have pD : p ∉ D := fun q => by
      obtain ⟨v0, A0, q1, q2, _⟩ := R.own e1
      rw [e2] at q1; cases q1
      cases Own.det o (q2.go g12)
      exact (q2.mem p (S.sub p List.mem_cons_self)).1 (hD p q)
    have hND : ∀ a, H a = none → a ∉ C := fun a n q => by
      obtain ⟨v0, A0, q1, q2, _⟩ := R.own e1
      rw [e2] at q1; cases q1
      cases Own.det o (q2.go g12)
      exact (q2.mem a (S.sub a (List.mem_cons_of_mem _ q))).1 n
    have od' : Own T F2 (upd H2 p (.ins (T.cl c') dx ((T.fs c').zip (vs.set j y)))) y x D := od.keep (Same.refl _) (fun a q => upd_ne fun z => pD (z ▸ q)) fun a q => (od.mem a q).2
    have t' : Owns T F2 (upd H2 p (.ins (T.cl c') dx ((T.fs c').zip (vs.set j y)))) vs ms C := t.keep (Same.refl _) (fun a q => upd_ne fun z => hnC (z ▸ q)) fun a q => (t.mem a q).2
    obtain ⟨C', t2, hC'⟩ := t'.setD (j := j) od' hD hND
    refine k.nx _ hz F2 _ σ g12.f (R.plc g12 e1 e2 o S cu.ex (Same.refl _) (fun _ _ _ _ => rfl) cu.fr cu.th (.ti upd_same hf (by rw [List.length_set]; exact hl) (fun q => ?_) t2) fun a q => ?_)
    · rcases hC' p q with z | z
      · exact hnC z
      · obtain ⟨v0, A0, q1, q2, _⟩ := R.own e1
        rw [e2] at q1; cases q1
        cases Own.det o (q2.go g12)
        exact (q2.mem p (S.sub p List.mem_cons_self)).1 z
    · rcases List.mem_cons.mp q with q | q
      · rw [q]; exact .inl List.mem_cons_self
      · rcases hC' a q with z | z
        · exact .inl (List.mem_cons_of_mem _ z)
        · exact .inr z
  · exact hz.elim
/-- an entry of an own dict: the object and the tree behind the store -/
theorem own_put {t : Bool} {ks : List (List Key)} {key : List Key} {x k' : M} {y kv : V} {kd : D} {D : List Addr} {N : Addr → Prop} (ex : Same F H) (o : Own T F H u k B) (hk : dctM k = some (t, ks)) (hp : putM k key x = some k') (rk : Rep T H kv kd) (hkey : keyO t kd = some key) (hl : ks.length < 1000000)
    (od : Own T F H y x D) (hD : ∀ a ∈ D, N a) (hN : ∀ a, N a → a ∉ B) : ∃ p o' B', u = .ref p ∧ DPut H p kv y (upd H p o') ∧ Chg F H B (upd H p o') ∧ Own T F (upd H p o') u k' B' ∧ ∀ a ∈ B', a ∈ B ∨ N a := by
  have leaf : ∀ {p : Addr} {ob : HO} {vs : List V}, k = .fd t ks [] → u = .ref p → B = [p] → H p = some ob → F p = none → DctO t ob ks vs → ks = [] → vs = [] → k' = .td t [key] [x] → ∃ p o' B', u = .ref p ∧ DPut H p kv y (upd H p o') ∧ Chg F H B (upd H p o') ∧ Own T F (upd H p o') u k' B' ∧ ∀ a ∈ B', a ∈ B ∨ N a := by
    rintro p ob vs _ rfl rfl hp0 hf hd rfl rfl rfl
    obtain ⟨o', h1, h2⟩ := dct_put hd hp0 rk hkey (dSz_lt hl) y
    have pD : p ∉ D := fun q => hN p (hD p q) List.mem_cons_self
    have od' : Own T F (upd H p o') y x D := od.keep (Same.refl _) (fun a q => upd_ne fun z => pD (z ▸ q)) fun a q => (od.mem a q).2
    refine ⟨p, o', p :: (D ++ []), rfl, h1, chg_upd ex List.mem_cons_self hf, .td upd_same hf ?_ (fun q => pD (by simpa using q)) (.cons od' .nil fun a q z => nomatch z), fun a q => ?_⟩
    · have e1 : putKs [] key = [key] := by unfold putKs; rw [if_neg List.not_mem_nil]; rfl
      rw [e1] at h2
      exact h2
    · rcases List.mem_cons.mp q with q | q
      · rw [q]; exact .inl List.mem_cons_self
      · exact .inr (hD a (by simpa using q))
  cases k with
  | cl d => cases hk
  | fl ds => cases hk
  | tl ms => cases hk
  | ti c ms => cases hk
  | tp ms => cases hk
  | nd ms => cases hk
  | fd t' ks' ds =>
    cases hk
    obtain ⟨p, ob, vs, rfl, rfl, h, f, d, r⟩ := own_fd o
    have leaf2 : ds = [] → ks = [] → k' = .td t [key] [x] → ∃ p' o' B', V.ref p = .ref p' ∧ DPut H p' kv y (upd H p' o') ∧ Chg F H [p] (upd H p' o') ∧ Own T F (upd H p' o') (.ref p) k' B' ∧ ∀ a ∈ B', a ∈ [p] ∨ N a := by
      intro h1 h2 h3
      subst h1
      have hv : vs = [] := by cases r; rfl
      exact leaf rfl rfl rfl h f d h2 hv h3
    cases x with
    | cl dd =>
      have hp : some (M.fd t (putKs ks key) (putVs ks ds key dd)) = some k' := hp
      cases hp
      obtain ⟨o', h1, h2⟩ := dct_put d h rk hkey (dSz_lt hl) y
      obtain ⟨rd, _⟩ := own_clean od
      exact ⟨_, o', _, rfl, h1, chg_upd ex List.mem_cons_self f, .fd upd_same f h2 (r.putVs (dct_len d) rd), fun a q => .inl q⟩
    | fl a => cases ks <;> cases ds <;> first | (cases hp; done) | (cases hp; exact leaf2 rfl rfl rfl)
    | fd a b c => cases ks <;> cases ds <;> first | (cases hp; done) | (cases hp; exact leaf2 rfl rfl rfl)
    | tl a => cases ks <;> cases ds <;> first | (cases hp; done) | (cases hp; exact leaf2 rfl rfl rfl)
    | td a b c => cases ks <;> cases ds <;> first | (cases hp; done) | (cases hp; exact leaf2 rfl rfl rfl)
    | ti a b => cases ks <;> cases ds <;> first | (cases hp; done) | (cases hp; exact leaf2 rfl rfl rfl)
    | tp a => cases ks <;> cases ds <;> first | (cases hp; done) | (cases hp; exact leaf2 rfl rfl rfl)
    | nd a => cases ks <;> cases ds <;> first | (cases hp; done) | (cases hp; exact leaf2 rfl rfl rfl)
  | td t' ks' ms =>
    cases hk
    obtain ⟨p, ob, vs, C, rfl, rfl, h, f, d, n, tt⟩ := own_td o
    have hp : some (M.td t (putKs ks key) (putVs ks ms key x)) = some k' := by cases x <;> exact hp
    cases hp
    obtain ⟨o', h1, h2⟩ := dct_put d h rk hkey (dSz_lt hl) y
    have hpB : ∀ a, N a → a ∉ C := fun a q z => hN a q (List.mem_cons_of_mem _ z)
    have pN : ∀ a, N a → a ≠ p := fun a q z => hN a q (by rw [z]; exact List.mem_cons_self)
    have od' : Own T F (upd H p o') y x D := od.keep (Same.refl _) (fun a q => upd_ne (pN a (hD a q))) fun a q => (od.mem a q).2
    have tt' : Owns T F (upd H p o') vs ms C := tt.keep (Same.refl _) (fun a q => upd_ne fun z => n (z ▸ q)) fun a q => (tt.mem a q).2
    obtain ⟨C', t2, hC'⟩ := tt'.putVs (ks := ks) (k := key) (dct_len d) od' hD hpB
    refine ⟨p, o', p :: C', rfl, h1, chg_upd ex List.mem_cons_self f, .td upd_same f h2 (fun q => ?_) t2, fun a q => ?_⟩
    · rcases hC' p q with z | z
      · exact n z
      · exact pN p z rfl
    · rcases List.mem_cons.mp q with q | q
      · rw [q]; exact .inl List.mem_cons_self
      · rcases hC' a q with z | z
        · exact .inl (List.mem_cons_of_mem _ z)
        · exact .inr z
theorem s_dputP (hu : X.A.units + 1 < cLine) (ho : PE X o (rdP T pl)) (hi : PE X ki (rdE T kk)) (hv : PE X e (rdE T x)) (hs : swapsWith e (some (.Subscript o ki pos')) pos.line X.env = pure false := by rfl) :
    PS X (.Assign [.Subscript o ki pos'] e pos) (rdS T (aDPutP pl kk x)) := (ps_dput hu ho hi hv hs).mono fun D' σ H h => by
  obtain ⟨G, F, δ, E, R, h, k⟩ := h
  refine ⟨G, F, δ, _, R, h, fun w hw y F1 H1 g r1 => ?_⟩
  refine ⟨G, F1, δ, _, R.go g, hw, fun i c kt hw2 F2 H2 g2 l m v A u B e1 e2 ow S => ?_⟩
  refine ⟨G, F2, δ, _, R.go (g.trans g2), hw2, fun z hz kv F3 H3 g3 r3 => ?_⟩
  clear hw hw2
  split at hz
  · rename_i xm kd t ks hx hkd hdm
    obtain ⟨hl, hz⟩ := hz
    split at hz
    · rename_i key hkey
      split at hz
      · rename_i k' hk'
        obtain ⟨F4, g4, rk⟩ := clW_rep g3 r3 hkd
        have gg := (g.trans g2).trans g4
        have S4 := S.go g4
        obtain ⟨D, od, hD⟩ := kid_own gg ((r1.go g2).go g4) hx
        have R4 := R.go gg
        have hN : ∀ a, H a = none → a ∉ B := fun a n q => by
          obtain ⟨v0, A0, q1, q2, _⟩ := R.own e1
          rw [e2] at q1; cases q1
          cases Own.det (ow.go g4) (q2.go gg)
          exact (q2.mem a (S.sub a q)).1 n
        obtain ⟨p, o', B', rfl, hput, ch, o2, hB'⟩ := own_put (N := fun a => H a = none) R4.ex S4.ow hdm hk' (Rep.mono R4.ex rk) hkey hl od hD hN
        exact ⟨p, _, rfl, hput, k.nx _ hz F4 _ σ gg.f (R.plc gg e1 e2 (ow.go g4) S4 ch.ex (Same.refl _) (fun _ _ _ _ => rfl) ch.fr ch.th o2 hB')⟩
      · exact hz.elim
    · exact hz.elim
  · exact hz.elim
end
end Vl
/-! x == y by the text's own __eq__, whatever it answers. -/
namespace Vl
open PySem PySem.Spec PyProof.Rows L2
def rOwn (K : PySem.W.Frag) (C : Addr) (sp : Sp) (E : XK) : R2 := fun x y H Q => ∃ a dx fs t, x = .ref a ∧ H a = some (.ins C dx fs) ∧ TyX K H y t ∧ PySem.W.notFirst K C t = true ∧ sp [x, y] H (fun v H' => (∃ b, v = .bl b) ∧ Q v H') E
section
variable {X : Cx} {CX : CXT} {C f : Addr} {fd : FuncData} {ps : List Str} {sp : Sp} {E : XK} {n : Nat}
theorem op_own (F : FnOk X.prog X.w X.K X.mg X.base CX n f fd ps sp) (hm : Meth X.K C "__eq__" f) (hb : Binds X.K fd ps []) (hx : Passes CX X E) (hr : Room n X.A) : OpR X (compareOp .Eq) (rOwn X.K C sp E) := by
  intro pins s σ H x y v u Q I rx ry hq
  obtain ⟨a, dx, fs, t, rfl, ha, ty, nf, hsp⟩ := hq
  cases rx
  show wpAny (model X.prog X.w) X.A (richCompare .Eq (.ref a) u) (EP X pins σ Q) X.xe s
  obtain ⟨mA, J, _⟩ := ins_get I.hok ha
  obtain ⟨od, J, _⟩ := J.look
  obtain ⟨m, hF⟩ := I.fr
  obtain ⟨P, Z, pz, _⟩ := kit_of I ry ty
  refine PySem.W.cmp_K (op := .Eq) (tb := t) hr.units0 hF I.ok.mod.kin J (Z.ty _ _ I.kIn pz) nf hm.at_ hm.fn ?_
  have hl := F.len _ _ _ _ hsp
  have r2 : Vals [V.ref a, y] [Value.ref a, u] := .cons rfl (.cons ry .nil)
  refine wpAny_call (codeAny_mono (F.run X.A X.stack s H ⟨[.ref a, u], []⟩ [.ref a, u] [.ref a, y] _ E hr I.env0 (by
    have := hb s [.ref a, u] I.kIn (by simpa using hl)
    simpa using this) r2 hsp) fun r s' hq => ?_)
  cases r with
  | error e => exact hx pins σ H s e s' I hq
  | ok fl =>
    cases fl with
    | ret w =>
      obtain ⟨z, H', I', rz, ⟨b, ez⟩, q⟩ := I.after hq
      subst ez
      cases rz
      exact ⟨.bl b, H', I', rfl, q⟩
    | next => exact False.elim hq
    | brk => exact False.elim hq
    | cont => exact False.elim hq
end
/-- what == asks of an own class beside -/
structure EqOk (K : PySem.W.Frag) (C : Addr) : Prop where
  ins : C8.InsC K C
  sl : PySem.W.subIn K (.type "list") (.ref C) = some false
  si : PySem.W.subIn K (.type "int") (.ref C) = some false
def dEqO (c : Nat) (ct : Ct) : W → W → (W → Prop) → Prop := fun x y Q => match x, y with
  | .cl (.ins c' ds), .cl (.ins c2 es) => (c' = c ∧ c2 = c) ∧ ct [.cl (.ins c' ds), .cl (.ins c2 es)] fun w => ∃ b, w = .cl (.bl b) ∧ Q w
  | .cl (.ins c' ds), .cl (.lst es) => c' = c ∧ ct [.cl (.ins c' ds), .cl (.lst es)] fun w => ∃ b, w = .cl (.bl b) ∧ Q w
  | .cl (.ins c' ds), .cl (.int i) => c' = c ∧ ct [.cl (.ins c' ds), .cl (.int i)] fun w => ∃ b, w = .cl (.bl b) ∧ Q w
  | _, _ => False
theorem b_eqO {T : Tb} {c : Nat} {ct : Ct} (I : EqOk T.K (T.cl c)) : Bin2 T (rOwn T.K (T.cl c) (spC T ct) E0) (dEqO c ct) := by
  intro G F H F' H' x y u w P Q go rx ry h k
  have fin : ∀ {us : List V} {ws : List W}, RepAs T G F' H' us ws → ct ws (fun w => ∃ b, w = .cl (.bl b) ∧ P w) → spC T ct us H' (fun v H' => (∃ b, v = .bl b) ∧ Q v H') E0 := fun {us ws} r hc =>
    ⟨G, F', ws, _, go.ex, r, hc, fun w hw v F2 H2 g2 r2 => by
      obtain ⟨b, rfl, q⟩ := hw
      cases r2
      exact ⟨⟨b, rfl⟩, k _ q _ F2 H2 (go.trans g2) (.bl b)⟩⟩
  unfold dEqO at h
  split at h
  · rename_i c' ds c2 es
    obtain ⟨⟨rfl, rfl⟩, hc⟩ := h
    obtain ⟨a, dx, vs, rfl, ha, _, _⟩ := rep_ins rx
    obtain ⟨b, dy, ws, rfl, hb, _, _⟩ := rep_ins ry
    exact ⟨a, dx, _, _, rfl, go.ex _ _ ha, .base (.ins (go.ex _ _ hb) I.ins.cl I.ins.ha I.ins.hn I.ins.htk I.ins.hm), by simp [PySem.W.notFirst], fin (.cons (w := .cl (.ins c2 ds)) rx (.cons (w := .cl (.ins c2 es)) ry .nil)) hc⟩
  · rename_i c' ds es
    obtain ⟨rfl, hc⟩ := h
    obtain ⟨a, dx, vs, rfl, ha, _, _⟩ := rep_ins rx
    obtain ⟨b, ws, rfl, hb, _⟩ := rep_lst ry
    exact ⟨a, dx, _, _, rfl, go.ex _ _ ha, .base (.lst (go.ex _ _ hb)), by simp [PySem.W.notFirst, I.sl], fin (.cons (w := .cl (.ins c' ds)) rx (.cons (w := .cl (.lst es)) ry .nil)) hc⟩
  · rename_i c' ds i
    obtain ⟨rfl, hc⟩ := h
    obtain ⟨a, dx, vs, rfl, ha, _, _⟩ := rep_ins rx
    cases rep_int ry
    exact ⟨a, dx, _, _, rfl, go.ex _ _ ha, .base (.int i), by simp [PySem.W.notFirst, I.si], fin (.cons (w := .cl (.ins c' ds)) rx (.cons (w := .cl (.int i)) (.int i) .nil)) hc⟩
  · exact h.elim
end Vl
/-! Dicts that are read: d[k], d.get(k, x), k in d; {}. -/
namespace Vl
open PySem PySem.Spec PyProof.Rows L2
def kidsW : W → Option (Bool × List (List Key) × List W)
  | .cl (.dct t ks ds) => some (t, ks, ds.map W.cl)
  | .bw (.fd t ks ds) => some (t, ks, ds.map W.cl)
  | .ow (.fd t ks ds) => some (t, ks, ds.map W.cl)
  | .bw (.td t ks ms) => some (t, ks, ms.map bwM)
  | .ow (.td t ks ms) => some (t, ks, ms.map owM)
  | _ => none
/-- d[k] -/
def aDIx (o ky : AE) : AE := fun δ Q => o δ fun w => ky δ fun z => match kidsW w, clW z with
  | some (t, ks, ws), some kd => match keyO t kd with
    | some key => match getK ks ws key with
      | some x => Q x
      | none => False
    | none => False
  | _, _ => False
/-- d.get(k, x) -/
def aDGet (o ky z : AE) : AE := fun δ Q => o δ fun w => (∃ t ks ws, kidsW w = some (t, ks, ws)) ∧ ky δ fun kw => z δ fun zw => match kidsW w, clW kw with
  | some (t, ks, ws), some kd => match keyO t kd with
    | some key => match getK ks ws key with
      | some x => Q x
      | none => Q zw
    | none => False
  | _, _ => False
def aDNew (t : Bool) : AE := fun _ Q => Q (.fr (.fd t [] []))
def fLenD : List W → (W → Prop) → Prop := one fun w Q => match kidsW w with
  | some (_, ks, _) => Q (.cl (.int ks.length))
  | none => False
section
variable {T : Tb} {G : Gx} {Hs F H F' H' : Hp} {v : V} {w : W} {t : Bool} {ks : List (List Key)} {ws : List W}
theorem RepW.kids (e : Same F H) (h : RepW T G Hs F H v w) (k : kidsW w = some (t, ks, ws)) : ∃ p o vs, v = .ref p ∧ H p = some o ∧ DctO t o ks vs ∧ vs.length = ws.length ∧ ∀ (j : Nat) (u : V) (x : W), vs[j]? = some u → ws[j]? = some x → RepW T G Hs F H u x := by
  unfold kidsW at k
  split at k
  · cases k
    cases h with
    | dct q l r =>
      refine ⟨_, _, _, rfl, e _ _ q, l, by rw [List.length_map]; exact r.length, fun j u x hu hx => ?_⟩
      rw [List.getElem?_map] at hx
      obtain ⟨d, hd, rd⟩ := r.get hu
      rw [hd] at hx; cases hx
      exact rd
  · cases k
    obtain ⟨A, o, _⟩ := h
    obtain ⟨p, ob, vs, rfl, _, q, _, l, r⟩ := own_fd o
    refine ⟨_, _, _, rfl, q, l, by rw [List.length_map]; exact r.length, fun j u x hu hx => ?_⟩
    rw [List.getElem?_map] at hx
    obtain ⟨d, hd, rd⟩ := r.get hu
    rw [hd] at hx; cases hx
    exact rd
  · cases k
    obtain ⟨A, o⟩ := h
    obtain ⟨p, ob, vs, rfl, _, q, _, l, r⟩ := own_fd o
    refine ⟨_, _, _, rfl, q, l, by rw [List.length_map]; exact r.length, fun j u x hu hx => ?_⟩
    rw [List.getElem?_map] at hx
    obtain ⟨d, hd, rd⟩ := r.get hu
    rw [hd] at hx; cases hx
    exact rd
  · rename_i ms
    cases k
    obtain ⟨A, o, hA⟩ := h
    obtain ⟨p, ob, vs, B, rfl, rfl, q, _, l, _, r⟩ := own_td o
    refine ⟨_, _, _, rfl, q, l, by rw [List.length_map]; exact r.length, fun j u x hu hx => ?_⟩
    rw [List.getElem?_map] at hx
    cases hm : ms[j]? with
    | none => rw [hm] at hx; cases hx
    | some m =>
      rw [hm] at hx; cases hx
      obtain ⟨u', C, hu', ou, hC⟩ := r.at hm
      rw [hu] at hu'; cases hu'
      exact bwM_rep ou fun a z => hA a (List.mem_cons_of_mem _ (hC a z))
  · rename_i ms
    cases k
    obtain ⟨A, o⟩ := h
    obtain ⟨p, ob, vs, B, rfl, rfl, q, _, l, _, r⟩ := own_td o
    refine ⟨_, _, _, rfl, q, l, by rw [List.length_map]; exact r.length, fun j u x hu hx => ?_⟩
    rw [List.getElem?_map] at hx
    cases hm : ms[j]? with
    | none => rw [hm] at hx; cases hx
    | some m =>
      rw [hm] at hx; cases hx
      obtain ⟨u', C, hu', ou, hC⟩ := r.at hm
      rw [hu] at hu'; cases hu'
      exact owM_rep ou
  · cases k
theorem getK_two {α β : Type} : ∀ {ks : List (List Key)} {xs : List α} {ys : List β} {k : List Key}, xs.length = ys.length → (getK ks xs k = none ∧ getK ks ys k = none) ∨ ∃ (j : Nat) (x : α) (y : β), xs[j]? = some x ∧ ys[j]? = some y ∧ getK ks xs k = some x ∧ getK ks ys k = some y
  | [], _, _, _, _ => .inl ⟨rfl, rfl⟩
  | _ :: _, [], [], _, _ => .inl ⟨rfl, rfl⟩
  | _ :: _, [], _ :: _, _, h => by cases h
  | _ :: _, _ :: _, [], _, h => by cases h
  | a :: ks, x :: xs, y :: ys, k, h => by
    by_cases e : a = k
    · exact .inr ⟨0, x, y, rfl, rfl, if_pos e, if_pos e⟩
    · rcases getK_two (ks := ks) (xs := xs) (ys := ys) (k := k) (by simpa using h) with ⟨h1, h2⟩ | ⟨j, a, b, h1, h2, h3, h4⟩
      · exact .inl ⟨(if_neg e).trans h1, (if_neg e).trans h2⟩
      · exact .inr ⟨j + 1, a, b, by simpa using h1, by simpa using h2, (if_neg e).trans h3, (if_neg e).trans h4⟩
variable {X : Cx} {o ki e : Expr} {x kk zz : AE} {pos apos cpos : Pos}
theorem e_dix (hu : X.A.units + 1 < cLine) (ho : PE X o (rdE T x)) (hi : PE X ki (rdE T kk)) (hs : NoSl ki) : PE X (.Subscript o ki pos) (rdE T (aDIx x kk)) := (pe_dget hu ho hi hs).mono fun σ H Q h => by
  obtain ⟨G, F, δ, P, R, h, k⟩ := h
  refine ⟨G, F, δ, _, R, h, fun w hw v F1 H1 g r1 => ?_⟩
  refine ⟨G, F1, δ, _, R.go g, hw, fun z hz kv F2 H2 g2 r2 => ?_⟩
  split at hz
  · rename_i t ks ws kd hw2 hkd
    split at hz
    · rename_i key hk
      split at hz
      · rename_i y hy
        obtain ⟨F3, g3, r3⟩ := clW_rep g2 r2 hkd
        obtain ⟨p, ob, vs, rfl, hp, hd, hl, hkid⟩ := (r1.go g3).kids g3.ex hw2
        rcases getK_two (ks := ks) (k := key) hl with ⟨_, e2⟩ | ⟨j, a, b, h1, h2, h3, h4⟩
        · rw [hy] at e2; cases e2
        · rw [hy] at h4; cases h4
          exact ⟨p, a, rfl, h3 ▸ dct_get hd hp (Rep.mono g3.ex r3) hk, k _ hz a F3 H2 (g.trans g3) (hkid j a _ h1 h2)⟩
      · exact hz.elim
    · exact hz.elim
  · exact hz.elim
theorem isD_of {t : Bool} {ob : HO} {ks : List (List Key)} {vs : List V} {p : Addr} (hd : DctO t ob ks vs) (hp : H p = some ob) : IsD H p := by
  obtain ⟨_, hd⟩ := hd
  cases t with
  | false => obtain ⟨kvs, rfl, _⟩ := hd; exact .inl ⟨kvs, .inl hp⟩
  | true => obtain ⟨kvs, rfl, _⟩ := hd; exact .inr ⟨kvs, .inl hp⟩
theorem e_dget (hu : X.A.units + 1 < cLine) (ho : PE X o (rdE T x)) (hk : PE X ki (rdE T kk)) (hz : PE X e (rdE T zz)) (m : M2 X o "get" apos ki e cpos) : PE X (.Call (.Attribute o "get" apos) [ki, e] [] cpos) (rdE T (aDGet x kk zz)) :=
  (pe_dget2 hu ho hk hz m).mono fun σ H Q h => by
    obtain ⟨G, F, δ, P, R, h, k⟩ := h
    refine ⟨G, F, δ, _, R, h, fun w ⟨⟨t, ks, ws, hw2⟩, hw⟩ v F1 H1 g r1 => ?_⟩
    obtain ⟨p, ob, vs, rfl, hp, hd, hl, hkid⟩ := r1.kids g.ex hw2
    refine ⟨p, rfl, isD_of hd hp, G, F1, δ, _, R.go g, hw, fun kw hkw kv F2 H2 g2 r2 => ?_⟩
    refine ⟨G, F2, δ, _, (R.go g).go g2, hkw, fun zw hzw zv F3 H3 g3 r3 => ?_⟩
    rw [hw2] at hzw
    split at hzw
    · rename_i t' ks' ws' kd e1 hkd
      cases e1
      split at hzw
      · rename_i key hk
        obtain ⟨F4, g4, rk⟩ := clW_rep (g2.trans g3) (r2.go g3) hkd
        have gd := dct_get hd ((g2.trans g3).h _ _ hp) (Rep.mono g4.ex rk) hk
        refine ⟨_, gd, ?_⟩
        rcases getK_two (ks := ks) (k := key) hl with ⟨e1, e2⟩ | ⟨j, a, b, h1, h2, h3, h4⟩
        · rw [e1]
          rw [e2] at hzw
          exact k _ hzw zv F3 H3 (g.trans (g2.trans g3)) (r3.back (g.trans g2).h)
        · rw [h3]
          rw [h4] at hzw
          exact k _ hzw a F3 H3 (g.trans (g2.trans g3)) ((hkid j a _ h1 h2).go (g2.trans g3))
      · exact hzw.elim
    · exact hzw.elim
end
/-- k in d, k not in d -/
def rInDct (neg : Bool) : R2 := fun x y H Q => ∃ a o, y = .ref a ∧ DGet H a x o ∧ Q (.bl (if neg then !o.isSome else o.isSome)) H
theorem op_inDct {X : Cx} (hu : X.A.units + 1 < cLine) : OpR X (compareOp .In) (rInDct false) := by
  intro pins s σ H x y v u Q I rx ry h
  obtain ⟨a, o, rfl, g, q⟩ := h
  cases ry
  exact d_in hu I g rx fun s3 I3 => ⟨.bl o.isSome, H, I3, rfl, q⟩
theorem op_notInDct {X : Cx} (hu : X.A.units + 1 < cLine) : OpR X (compareOp .NotIn) (rInDct true) := by
  intro pins s σ H x y v u Q I rx ry h
  obtain ⟨a, o, rfl, g, q⟩ := h
  cases ry
  exact d_notIn hu I g rx fun s3 I3 => ⟨.bl (!o.isSome), H, I3, rfl, q⟩
def dInD (neg : Bool) : W → W → (W → Prop) → Prop := fun kw w Q => match kidsW w, kw with
  | some (t, ks, _), .cl kd => match keyO t kd with
    | some key => Q (.cl (.bl (if neg then !decide (key ∈ ks) else decide (key ∈ ks))))
    | none => False
  | _, _ => False
theorem b_inDct {T : Tb} {neg : Bool} : Bin2 T (rInDct neg) (dInD neg) := by
  intro G F H F' H' x y u w P Q go rx ry h k
  unfold dInD at h
  split at h
  · rename_i t ks ws kd hw
    split at h
    · rename_i key hk
      obtain ⟨p, ob, vs, rfl, hp, hd, hl, _⟩ := ry.kids go.ex hw
      refine ⟨p, _, rfl, dct_get hd hp (Rep.mono go.ex rx) hk, ?_⟩
      have e : (getK ks vs key).isSome = decide (key ∈ ks) := by
        have := getK_none (k := key) (dct_len hd)
        by_cases q : key ∈ ks
        · rw [decide_eq_true q]
          cases e : getK ks vs key with
          | none => exact absurd q (this.mp e)
          | some _ => rfl
        · rw [decide_eq_false q, this.mpr q]; rfl
      rw [e]
      exact k _ h _ _ _ go (.bl _)
    · exact h.elim
  · exact h.elim
section
variable {T : Tb} {X : Cx} {pos : Pos}
theorem e_dnewK : PE X (.Dict [] [] pos) (rdE T (aDNew false)) := pe_dnewK.mono fun σ H Q h => by
  obtain ⟨G, F, δ, P, R, h, k⟩ := h
  intro p hp
  exact k _ h _ F _ ((Go.refl R.ex).lay hp) ⟨[p], .fd upd_same (R.ex.free hp) ⟨List.nodup_nil, [], rfl, rfl, rfl⟩ .nil, fun a q => by rw [List.mem_singleton.mp q]; exact hp⟩
theorem e_dnewT : PE X (.Dict [] [] pos) (rdE T (aDNew true)) := pe_dnewT.mono fun σ H Q h => by
  obtain ⟨G, F, δ, P, R, h, k⟩ := h
  intro p hp
  exact k _ h _ F _ ((Go.refl R.ex).lay hp) ⟨[p], .fd upd_same (R.ex.free hp) ⟨List.nodup_nil, [], rfl, rfl, rfl⟩ .nil, fun a q => by rw [List.mem_singleton.mp q]; exact hp⟩
end
def rLenDc : List V → Hp → VK → Prop := fun xs H Q => (∃ a kvs, xs = [V.ref a] ∧ H a = some (.dK kvs) ∧ Q (.int kvs.length) H) ∨ rLenT xs H Q
theorem call_lenDc {X : Cx} : CallR X (.builtin "len") rLenDc := call_lenD.or call_len_dT
theorem c_lenD {T : Tb} : CallV T rLenDc fLenD := by
  intro G F H F' H' xs ws P Q g r h k
  obtain ⟨x, w, rfl, rfl, rx, h⟩ := one_inv h r
  split at h
  · rename_i t ks us hw
    obtain ⟨p, ob, vs, rfl, hp, ⟨_, hd⟩, hl, _⟩ := rx.kids g.ex hw
    cases t with
    | false =>
      obtain ⟨kvs, rfl, rfl, rfl⟩ := hd
      rw [List.length_map] at h
      exact .inl ⟨p, kvs, rfl, hp, k _ h _ _ _ g (.int _)⟩
    | true =>
      obtain ⟨kvs, rfl, rfl, rfl⟩ := hd
      rw [List.length_map] at h
      exact .inr ⟨p, kvs, rfl, hp, k _ h _ _ _ g (.int _)⟩
  · exact h.elim
end Vl
/-! Expressions with an effect: calls that lend a place; statements around them. -/
namespace Vl
open PySem PySem.Spec PyProof.Rows L2

abbrev AX := List AV → (W → List AV → Prop) → Prop
abbrev ATX := List AV → (Bool → List AV → Prop) → Prop
/-- a new value stands apart from every own slot -/
def ApartW (T : Tb) (F H : Hp) (σ : L2.St) (δ : List AV) (v : V) (w : W) : Prop := ∀ m i l m' u A B, w = .fr m → gt δ i = .ow l m' → gs σ i = some u → Own T F H v m A → Own T F H u m' B → ∀ a ∈ A, a ∉ B
def rdX (T : Tb) (a : AX) : TE := fun σ H Q => ∃ G F δ P, RepS T G F H σ δ ∧ a δ P ∧ ∀ w δ', P w δ' → ∀ v F' H', Same F F' → RepS T G F' H' σ δ' → RepW T G G.H0 F' H' v w → ApartW T F' H' σ δ' v w → Q v H'
def rdTX (T : Tb) (a : ATX) : TT := fun σ H Q => ∃ G F δ P, RepS T G F H σ δ ∧ a δ P ∧ ∀ b δ', P b δ' → ∀ F' H', Same F F' → RepS T G F' H' σ δ' → Q b H'
def xP (a : AE) : AX := fun δ Q => a δ fun w => Q w δ
def tP (t : AT) : ATX := fun δ Q => t δ fun b => Q b δ
section
variable {T : Tb} {X : Cx} {G : Gx} {F F' F1 F2 H H' H1 H2 : Hp} {σ : L2.St} {δ δ' : List AV} {e o c : Expr} {x : AE} {xx yy : AX} {t : AT} {tx ux : ATX} {pos : Pos} {i : Nat} {v : V} {w : W} {m : M} {A : List Addr}
theorem RepS.apartW (R : RepS T G F H σ δ) (g : Go F H F1 H1) (r : RepW T G H F1 H1 v w) : ApartW T F1 H1 σ δ v w := by
  intro m i l m' u A B e e1 e2 o1 o2 a q z
  subst e
  obtain ⟨A', o, hA⟩ := r
  cases Own.det o1 o
  obtain ⟨u', B', e3, o3, _⟩ := R.own e1
  rw [e2] at e3; cases e3
  cases Own.det o2 (o3.go g)
  exact (o3.mem a z).1 (hA a q)
theorem RepS.freshW (R : RepS T G F H σ δ) (r : RepW T G H F1 H1 v w) : RepW T G G.H0 F1 H1 v w := by
  cases w with
  | cl d => exact r
  | bw m => exact r
  | ow m => exact r
  | fr m => obtain ⟨A, o, hA⟩ := r; exact ⟨A, o, fun a q => Classical.byContradiction fun z => R.th a z (hA a q)⟩
theorem x_pure (h : PE X e (rdE T x)) : PE X e (rdX T (xP x)) := h.mono fun σ H Q h => by
  obtain ⟨G, F, δ, P, R, h, k⟩ := h
  exact ⟨G, F, δ, _, R, h, fun w hw v F1 H1 g r => k w δ hw v F1 H1 g.f (R.go g) (R.freshW r) (R.apartW g r)⟩
theorem tx_pure (h : PT X c (rdT T t)) : PT X c (rdTX T (tP t)) := h.mono fun σ H Q h => by
  obtain ⟨G, F, δ, P, R, h, k⟩ := h
  exact ⟨G, F, δ, _, R, h, fun b hb F1 H1 g => k b δ hb F1 H1 g.f (R.go g)⟩
/-- a new value that no slot has becomes clean -/
theorem RepS.frzW (R : RepS T G F H σ δ) (o : Own T F H v m A) (h0 : ∀ a ∈ A, G.H0 a = none) (ap : ApartW T F H σ δ v (.fr m)) : RepS T G (ext F A H) H σ δ ∧ Same F (ext F A H) ∧ Rep T (ext F A H) v m.toD := by
  have sm : Same F (ext F A H) := ext_same R.ex
  have keep : ∀ {w : V} {m2 : M} {B : List Addr}, Own T F H w m2 B → (∀ a ∈ B, a ∉ A) → Own T (ext F A H) H w m2 B := fun {w m2 B} ob nd => ob.keep sm (fun _ _ => rfl) fun a q n => (ext_out (nd a q)).trans ((ob.mem a q).2 n)
  refine ⟨⟨fun a x h1 => ?_, R.fr, R.th, R.lh, R.f0.trans sm, fun a h1 => ?_, R.len, fun j => ?_, fun j k l1 l2 m1 m2 u w B C ne e1 e2 e3 e4 o1 o2 => ?_⟩, sm, o.frz sm fun a q => ext_in q⟩
  · by_cases q : a ∈ A
    · rw [ext_in q] at h1; exact h1
    · rw [ext_out q] at h1; exact R.ex _ _ h1
  · rw [ext_out fun z => h1 (h0 a z)]; exact R.fn a h1
  · have q := R.sl j
    revert q
    generalize hg : gt δ j = aj
    intro q
    cases aj with
    | non => trivial
    | im d => obtain ⟨w, e1, r⟩ := q; exact ⟨w, e1, r.mono sm⟩
    | bw m2 =>
      obtain ⟨w, B, e1, ob, hb⟩ := q
      exact ⟨w, B, e1, keep ob fun a z z2 => (hb a z).2 (h0 a z2), hb⟩
    | ow l2 m2 =>
      obtain ⟨w, B, e1, ob, hb⟩ := q
      exact ⟨w, B, e1, keep ob fun a z z2 => ap m j l2 m2 w A B rfl hg e1 o ob a z2 z, hb⟩
  · obtain ⟨w1, B1, z1, ob1, _⟩ := R.own e1
    obtain ⟨w2, B2, z2, ob2, _⟩ := R.own e2
    rw [e3] at z1; cases z1
    rw [e4] at z2; cases z2
    cases Own.det o1 (keep ob1 fun a z z2 => ap m j l1 m1 u A B1 rfl e1 e3 o ob1 a z2 z)
    cases Own.det o2 (keep ob2 fun a z z2 => ap m k l2 m2 w A B2 rfl e2 e4 o ob2 a z2 z)
    exact R.dj j k l1 l2 m1 m2 u w _ _ ne e1 e2 e3 e4 ob1 ob2
/-- the value as clean data, if it may be so -/
theorem RepS.clean {d : D} (R : RepS T G F H σ δ) (r : RepW T G G.H0 F H v w) (ap : ApartW T F H σ δ v w) (hd : clW w = some d) : ∃ F', Same F F' ∧ RepS T G F' H σ δ ∧ Rep T F' v d := by
  cases w with
  | cl d' => cases hd; exact ⟨F, Same.refl _, R, r⟩
  | bw m => cases hd
  | ow m => cases hd
  | fr m =>
    cases hd
    obtain ⟨A, o, hA⟩ := r
    obtain ⟨h1, h2, h3⟩ := R.frzW o hA ap
    exact ⟨_, h2, h1, h3⟩
/-! ### statements -/
def aSetX (i : Nat) (a : AX) : AS := fun E δ => a δ fun w δ' => match slotA w with
  | some s => E.nx (δ'.set i s)
  | none => False
def aSetCX (i : Nat) (a : AX) : AS := fun E δ => a δ fun w δ' => match clW w with
  | some d => E.nx (δ'.set i (.im d))
  | none => False
def aDropX (a : AX) : AS := fun E δ => a δ fun _ δ' => E.nx δ'
def aRetX (a : AX) : AS := fun E δ => a δ fun w δ' => match w with
  | .cl d => E.rt (.cl d) δ'
  | .fr m => E.rt (.fr m) δ'
  | _ => False
def aAsgGX (a : AX) (g : AG) : AS := fun E δ => a δ fun w δ' => match clW w with
  | some d => g d δ' E.nx
  | none => False
def aIfX (t : ATX) (s u : AS) : AS := fun E δ => t δ fun b δ' => if b = true then s E δ' else u E δ'
theorem s_setX {y : Str} {pos' : Pos} (hN : X.N.Nodup) (hi : X.N[i]? = some y) (hx : Loc X.env.scope y) (he : PE X e (rdX T xx)) (hs : swapsWith e (some (.Name y pos')) pos.line X.env = pure false := by rfl) (hf : X.fn y = true ∨ X.env.scope.names.lookup y = some .local := by first | exact .inl rfl | exact .inr rfl | assumption) :
    PS X (.Assign [.Name y pos'] e pos) (rdS T (aSetX i xx)) := (ps_set hN hi hx he hs hf).mono fun D' σ H h => by
  obtain ⟨G, F, δ, E, R, h, k⟩ := h
  refine ⟨G, F, δ, _, R, h, fun w δ' hw v F1 H1 sF R' r ap => ?_⟩
  split at hw
  · rename_i s hs2
    refine k.nx _ hw F1 H1 _ sF (R'.put ?_ ?_)
    · cases w with
      | cl d => cases hs2; exact ⟨v, rfl, r⟩
      | fr m => cases hs2; obtain ⟨A, o, hA⟩ := r; exact ⟨v, A, rfl, o, hA⟩
      | bw m => cases hs2; obtain ⟨A, o, hA⟩ := r; exact ⟨v, A, rfl, o, hA⟩
      | ow m => cases hs2
    · intro l m e1 j l' m' w' A B nj e2 e3 o1 o2
      cases w with
      | cl d => cases hs2; cases e1
      | fr m2 => cases hs2; cases e1; exact ap m j l' m' w' A B rfl e2 e3 o1 o2
      | bw m2 => cases hs2; cases e1
      | ow m2 => cases hs2
  · exact hw.elim
theorem s_setCX {y : Str} {pos' : Pos} (hN : X.N.Nodup) (hi : X.N[i]? = some y) (hx : Loc X.env.scope y) (he : PE X e (rdX T xx)) (hs : swapsWith e (some (.Name y pos')) pos.line X.env = pure false := by rfl) (hf : X.fn y = true ∨ X.env.scope.names.lookup y = some .local := by first | exact .inl rfl | exact .inr rfl | assumption) :
    PS X (.Assign [.Name y pos'] e pos) (rdS T (aSetCX i xx)) := (ps_set hN hi hx he hs hf).mono fun D' σ H h => by
  obtain ⟨G, F, δ, E, R, h, k⟩ := h
  refine ⟨G, F, δ, _, R, h, fun w δ' hw v F1 H1 sF R' r ap => ?_⟩
  split at hw
  · rename_i d hd
    obtain ⟨F2, s2, R2, r2⟩ := R'.clean r ap hd
    exact k.nx _ hw F2 H1 _ (sF.trans s2) (R2.put (a := .im d) ⟨v, rfl, r2⟩ fun _ _ e => nomatch e)
  · exact hw.elim
theorem s_exprX (he : PE X e (rdX T xx)) (hs : swapsWith e none pos.line X.env = pure false := by rfl) : PS X (.Expr e pos) (rdS T (aDropX xx)) := (ps_expr he hs).mono fun D σ H h => by
  obtain ⟨G, F, δ, E, R, h, k⟩ := h
  exact ⟨G, F, δ, _, R, h, fun w δ' hw v F1 H1 sF R' r ap => k.nx _ hw F1 H1 _ sF R'⟩
theorem s_retX (he : PE X e (rdX T xx)) : PS X (.Return (some e) pos) (rdS T (aRetX xx)) := (ps_ret he).mono fun D σ H h => by
  obtain ⟨G, F, δ, E, R, h, k⟩ := h
  refine ⟨G, F, δ, _, R, h, fun w δ' hw v F1 H1 sF R' r ap => ?_⟩
  split at hw
  · exact k.rt _ _ hw v F1 H1 σ sF R' r apart_cl
  · exact k.rt _ _ hw v F1 H1 σ sF R' r fun m1 j m2 u B C e1 e2 e3 o1 o2 => ap m1 j true m2 u B C e1 e2 e3 o1 o2
  · exact hw.elim
theorem s_asgGX {ks : List Nat} {tg e : Expr} {a : AG} (he : PE X e (rdX T xx)) (hg : PG X tg (rdG T ks a)) (hs : swapsWithSole [tg] e pos.line X.env = pure false := by rfl) (hw : swappedStores [tg] e X.env = pure none := by rfl)
    (h1 : (assignEach [tg] X.env).map (·.2) = [assign tg X.env] := by rfl) : PS X (.Assign [tg] e pos) (rdS T (aAsgGX xx a)) := (ps_asg he hg hs hw h1).mono fun D σ H h => by
  obtain ⟨G, F, δ, E, R, h, k⟩ := h
  refine ⟨G, F, δ, _, R, h, fun w δ' hw v F1 H1 sF R' r ap => ?_⟩
  split at hw
  · rename_i d hd
    obtain ⟨F2, s2, R2, r2⟩ := R'.clean r ap hd
    exact ⟨G, F2, δ', _, d, R2, r2, hw, fun δ2 q σ' _ R3 => k.nx _ q F2 H1 σ' (sF.trans s2) R3⟩
  · exact hw.elim
theorem s_ifX {a b : List Stmt} {s u : AS} (ht : PT X c (rdTX T tx)) (ha : PSs X a (rdS T s)) (hb : PSs X b (rdS T u)) : PS X (.If c a b pos) (rdS T (aIfX tx s u)) := (ps_if ht ha hb).mono fun D σ H h => by
  obtain ⟨G, F, δ, E, R, h, k⟩ := h
  refine ⟨G, F, δ, _, R, h, fun c δ' hc F1 H1 sF R' => ?_⟩
  cases c with
  | true => exact ⟨G, F1, δ', E, R', hc, k.mono sF⟩
  | false => exact ⟨G, F1, δ', E, R', hc, k.mono sF⟩
/-! ### tests -/
def aBX (a : AX) : ATX := fun δ Q => a δ fun w δ' => match w with
  | .cl (.bl b) => Q b δ'
  | _ => False
def aAndX (t u : ATX) : ATX := fun δ Q => t δ fun c δ' => if c = true then u δ' Q else Q false δ'
def aOrX (t u : ATX) : ATX := fun δ Q => t δ fun c δ' => if c = true then Q true δ' else u δ' Q
def aNotX (t : ATX) : ATX := fun δ Q => t δ fun c δ' => Q (!c) δ'
/-- x op y, y with an effect -/
def aBinX (f : W → W → (W → Prop) → Prop) (a : AE) (b : AX) : AX := fun δ Q => a δ fun u => b δ fun w δ' => match argW u, w with
  | .cl d, .cl z => f (.cl d) (.cl z) fun r => Q r δ'
  | _, _ => False
def aUnX (f : W → (W → Prop) → Prop) (a : AX) : AX := fun δ Q => a δ fun w δ' => match w with
  | .cl z => f (.cl z) fun r => Q r δ'
  | _ => False
theorem tx_val (h : PE X e (rdX T xx)) (he : ∀ whole, isTrue e X.env whole = (do let v ← whole; standAt e.pos; holding [v] (truthy v)) := by intro _; rfl) : PT X e (rdTX T (aBX xx)) := (pt_val h he).mono fun σ H Q h => by
  obtain ⟨G, F, δ, P, R, h, k⟩ := h
  refine ⟨G, F, δ, _, R, h, fun w δ' hw v F1 H1 sF R' r ap => ?_⟩
  split at hw
  · exact ⟨_, rep_bl r, k _ _ hw _ _ sF R'⟩
  · exact hw.elim
theorem wx_and1 (h : PT X c (rdTX T tx)) : PW X (.BoolOp .And [c] pos) (rdTX T tx) := pw_and1 h
theorem wx_or1 (h : PT X c (rdTX T tx)) : PW X (.BoolOp .Or [c] pos) (rdTX T tx) := pw_or1 h
theorem wx_and {b : Expr} {rest : List Expr} (ha : PT X c (rdTX T tx)) (hb : PW X (.BoolOp .And (b :: rest) pos) (rdTX T ux)) : PW X (.BoolOp .And (c :: b :: rest) pos) (rdTX T (aAndX tx ux)) := (pw_and ha hb).mono fun σ H Q h => by
  obtain ⟨G, F, δ, P, R, h, k⟩ := h
  refine ⟨G, F, δ, _, R, h, fun c δ' hc F1 H1 sF R' => ?_⟩
  cases c with
  | true => exact ⟨G, F1, δ', P, R', hc, fun z δ2 hz F2 H2 s2 R2 => k z δ2 hz F2 H2 (sF.trans s2) R2⟩
  | false => exact k _ _ hc _ _ sF R'
theorem wx_or {b : Expr} {rest : List Expr} (ha : PT X c (rdTX T tx)) (hb : PW X (.BoolOp .Or (b :: rest) pos) (rdTX T ux)) : PW X (.BoolOp .Or (c :: b :: rest) pos) (rdTX T (aOrX tx ux)) := (pw_or ha hb).mono fun σ H Q h => by
  obtain ⟨G, F, δ, P, R, h, k⟩ := h
  refine ⟨G, F, δ, _, R, h, fun c δ' hc F1 H1 sF R' => ?_⟩
  cases c with
  | false => exact ⟨G, F1, δ', P, R', hc, fun z δ2 hz F2 H2 s2 R2 => k z δ2 hz F2 H2 (sF.trans s2) R2⟩
  | true => exact k _ _ hc _ _ sF R'
theorem tx_not (h : PT X c (rdTX T tx)) : PT X (.UnaryOp .Not c pos) (rdTX T (aNotX tx)) := (pt_not h).mono fun σ H Q h => by
  obtain ⟨G, F, δ, P, R, h, k⟩ := h
  exact ⟨G, F, δ, _, R, h, fun c δ' hc F1 H1 sF R' => k _ _ hc _ _ sF R'⟩
theorem rd_binX {r : R2} {f : W → W → (W → Prop) → Prop} (hf : Bin2 T r f) {Q : VK} (h : rdX T (aBinX f x yy) σ H Q) : tOp r (rdE T x) (rdX T yy) σ H Q := by
  obtain ⟨G, F, δ, P, R, h, k⟩ := h
  refine ⟨G, F, δ, _, R, h, fun u hu v F1 H1 g r1 => ?_⟩
  obtain ⟨F2, g2, _, _, r2, _⟩ := RepW.arg g r1
  refine ⟨G, F2, δ, _, R.go g2, hu, fun w δ' hw z F3 H3 sF R3 r3 ap => ?_⟩
  split at hw
  · rename_i d zz hd
    rw [hd] at r2
    have r2 : Rep T F3 v d := Rep.mono sF r2
    exact hf G F3 H3 F3 H3 v z (.cl d) (.cl zz) _ Q (Go.refl R3.ex) r2 r3 hw fun y hy v' F4 H4 g4 r4 => k y δ' hy v' F4 H4 ((g2.f.trans sF).trans g4.f) (R3.go g4) (R3.freshW r4) (R3.apartW g4 r4)
  · exact hw.elim
theorem x_cmp {op : CmpOp} {a b : Expr} {r : R2} {f : W → W → (W → Prop) → Prop} (ho : OpR X (compareOp op) r) (hf : Bin2 T r f) (ha : PE X a (rdE T x)) (hb : PE X b (rdX T yy)) (hm : behindInMarks op b = false) : PE X (.Compare a [op] [b] pos) (rdX T (aBinX f x yy)) :=
  (pe_cmpR ho ha hb hm).mono fun _ _ _ h => rd_binX hf h
theorem tx_cmp {op : CmpOp} {a b : Expr} {r : R2} {f : W → W → (W → Prop) → Prop} (ho : OpR X (compareOp op) r) (hf : Bin2 T r f) (ha : PE X a (rdE T x)) (hb : PE X b (rdX T yy)) (hm : behindInMarks op b = false) : PT X (.Compare a [op] [b] pos) (rdTX T (aBX (aBinX f x yy))) :=
  (pt_cmpR ho ha hb hm).mono fun σ H Q h => by
    obtain ⟨G, F, δ, P, R, h, k⟩ := h
    refine rd_binX hf ⟨G, F, δ, _, R, h, fun w δ' hw v F1 H1 sF R' r ap => ?_⟩
    split at hw
    · exact ⟨_, rep_bl r, k _ _ hw _ _ sF R'⟩
    · exact hw.elim
end
/-! ### what is lent -/
/-- from the lent object and the other arguments to what is wanted of the answer and of the object behind the call -/
abbrev LCt := M → List W → (W → M → Prop) → Prop
/-- an argument beside a lent object: clean, or it stands apart -/
def ArgA (T : Tb) (F H : Hp) (A : List Addr) (v : V) : W → Prop
  | .cl d => Rep T F v d
  | .bw m => ∃ B, Own T F H v m B ∧ ∀ a ∈ B, a ∉ A
  | _ => False
inductive ArgsA (T : Tb) (F H : Hp) (A : List Addr) : List V → List W → Prop
  | nil : ArgsA T F H A [] []
  | cons {v : V} {vs : List V} {w : W} {ws : List W} : ArgA T F H A v w → ArgsA T F H A vs ws → ArgsA T F H A (v :: vs) (w :: ws)
def spL (T : Tb) (k : Nat) (c : LCt) : Sp := fun vs H Q _ => ∃ (F : Hp) (us : List V) (v0 : V) (m : M) (A : List Addr) (ws : List W) (P : W → M → Prop), vs = us.insertIdx k v0 ∧ k ≤ us.length ∧ Same F H ∧ ArgsA T F H A us ws ∧ Own T F H v0 m A ∧ c m ws P ∧
  ∀ w m', P w m' → ∀ v F' H' A', Same F F' → Same F' H' → (∀ a, a ∉ A → H a ≠ none → NT H' a → F' a = F a) → (∀ a, a ∉ A → H a ≠ none → H' a = H a) → (∀ a, H a ≠ none → H' a ≠ none) → Own T F' H' v0 m' A' → (∀ a ∈ A', a ∈ A ∨ H a = none) → RepR T H F' H' v w → (∀ m1 B, w = .fr m1 → Own T F' H' v m1 B → ∀ a ∈ B, a ∉ A') → Q v H'
/-- what may be handed on beside a lent object -/
def apW : W → Bool
  | .cl _ => true
  | .bw _ => true
  | _ => false
/-- arguments, one of them a place -/
abbrev AAL := List AV → (List W → Nat → (M → M) → M → Prop) → Prop
def alHere (pl : AP) (es : AA) : AAL := fun δ P => pl δ fun i c m => es δ fun ws => ws.all apW = true ∧ P ws i c m
def alCons (e : AE) (r : AAL) : AAL := fun δ P => e δ fun w => apW (argW w) = true ∧ r δ fun ws i c m => P (argW w :: ws) i c m
/-- what is true of the other arguments before the lent one is told -/
def rdAL (T : Tb) (k : Nat) (a : AAL) : TA := fun σ H Q => ∃ G F δ P, RepS T G F H σ δ ∧ a δ P ∧ ∀ ws i c m, P ws i c m → ∀ us F' H', Go F H F' H' → RepAs T G F' H' us ws → ws.all apW = true → k ≤ us.length → ∀ l m0 v A u B, gt δ i = .ow l m0 → gs σ i = some v → Own T F' H' v m0 A → Sub T F' H' v m0 A u m B c → Q (us.insertIdx k u) H'
def aCallL (c : LCt) (al : AAL) : AX := fun δ Q => al δ fun ws i cx m => c m ws fun w m' => Q w (setP δ i (cx m'))
def aMethL (cn : Nat) (c : LCt) (pl : AP) (es : AA) : AX := fun δ Q => pl δ fun i cx m => match m with
  | .ti c' ms => c' = cn ∧ es δ fun ws => ws.all apW = true ∧ c (.ti c' ms) ws fun w m' => Q w (setP δ i (cx m'))
  | _ => False
section
variable {T : Tb} {X : Cx} {G : Gx} {F F' F1 F2 H H' H1 H2 : Hp} {σ : L2.St} {δ δ' : List AV} {e o : Expr} {es : List Expr} {x : AE} {xs : AA} {pl : AP} {al : AAL} {pos p apos : Pos} {i k n cn : Nat} {v u : V} {w : W} {m m' m0 : M} {A B A' : List Addr} {c : M → M} {l : Bool} {ct : LCt} {f : Addr} {fd : FuncData} {ps : List Str} {s : Str}
theorem argsA_of (hA : ∀ a ∈ A, a ∈ G.L ∨ G.H0 a = none) : ∀ {us : List V} {ws : List W}, RepAs T G F H us ws → ws.all apW = true → ArgsA T F H A us ws
  | _, _, .nil, _ => .nil
  | _, _, .cons (w := w) r t, h => by
    rw [List.all_cons, Bool.and_eq_true] at h
    refine .cons ?_ (argsA_of hA t h.2)
    cases w with
    | cl d => exact r
    | bw m =>
      obtain ⟨B, o, hB⟩ := r
      refine ⟨B, o, fun a q z => ?_⟩
      rcases hA a z with y | y
      · exact (hB a q).1 y
      · exact (hB a q).2 y
    | ow m => cases h.1
    | fr m => cases h.1
/-- new things stand apart from what was there -/
theorem argsA_new (hA : ∀ a ∈ A, H a = none) (g : Go F H F' H') : ∀ {us : List V} {ws : List W}, RepAs T G F H us ws → ws.all apW = true → ArgsA T F' H' A us ws
  | _, _, .nil, _ => .nil
  | _, _, .cons (w := w) r t, h => by
    rw [List.all_cons, Bool.and_eq_true] at h
    refine .cons ?_ (argsA_new hA g t h.2)
    cases w with
    | cl d => exact Rep.mono g.f r
    | bw m =>
      obtain ⟨B, o, hB⟩ := r
      exact ⟨B, o.go g, fun a q z => (o.mem a q).1 (hA a z)⟩
    | ow m => cases h.1
    | fr m => cases h.1
theorem OwS.lend (h : OwS G v A l) : ∀ a ∈ A, a ∈ G.L ∨ G.H0 a = none := by
  unfold OwS at h
  cases l with
  | true => exact (show v = G.r ∧ ∀ a ∈ A, a ∈ G.L ∨ G.H0 a = none from h).2
  | false => exact fun a q => .inr ((show ∀ a ∈ A, G.H0 a = none from h) a q)
theorem RepS.lendable (R : RepS T G F H σ δ) (g : Go F H F1 H1) (e1 : gt δ i = .ow l m0) (e2 : gs σ i = some v) (o : Own T F1 H1 v m0 A) (S : Sub T F1 H1 v m0 A u m B c) : ∀ a ∈ B, a ∈ G.L ∨ G.H0 a = none := by
  obtain ⟨v', A', q1, q2, q3⟩ := R.own e1
  rw [e2] at q1; cases q1
  cases Own.det o (q2.go g)
  exact fun a q => q3.lend a (S.sub a q)
theorem al_here (hp : PE X e (rdP T pl)) (ha : PA X es (rdA T xs)) (hs : starEach (e :: es) X.env = (false, eval e X.env) :: starEach es X.env := by rfl) : PA X (e :: es) (rdAL T 0 (alHere pl xs)) := (pa_cons hp ha hs).mono fun σ H Q h => by
  obtain ⟨G, F, δ, P, R, h, kk⟩ := h
  refine ⟨G, F, δ, _, R, h, fun i c m hw F1 H1 g l m0 v A u B e1 e2 o S => ?_⟩
  refine ⟨G, F1, δ, _, R.go g, hw, fun ws ⟨hap, hws⟩ vs F2 H2 g2 r2 => ?_⟩
  exact kk _ _ _ _ hws vs F2 H2 (g.trans g2) r2 hap (Nat.zero_le _) l m0 v A u B e1 e2 (o.go g2) (S.go g2)
theorem al_cons (he : PE X e (rdE T x)) (ha : PA X es (rdAL T k al)) (hs : starEach (e :: es) X.env = (false, eval e X.env) :: starEach es X.env := by rfl) : PA X (e :: es) (rdAL T (k + 1) (alCons x al)) := (pa_cons he ha hs).mono fun σ H Q h => by
  obtain ⟨G, F, δ, P, R, h, kk⟩ := h
  refine ⟨G, F, δ, _, R, h, fun w ⟨hap, hw⟩ v F1 H1 g r => ?_⟩
  obtain ⟨F2, g2, _, _, r2, _⟩ := RepW.arg g r
  refine ⟨G, F2, δ, _, R.go g2, hw, fun ws i c m hP us F3 H3 g3 r3 hall hk l m0 v0 A u B e1 e2 o S => ?_⟩
  exact kk _ _ _ _ hP (v :: us) F3 H3 (g2.trans g3) (.cons (r2.toA.go g3) r3) (by rw [List.all_cons, hap, hall]; rfl) (Nat.succ_le_succ hk) l m0 v0 A u B e1 e2 o S
/-- behind a call that was lent the place -/
theorem lent_end {m1 : M} (R : RepS T G F H σ δ) (g : Go F H F1 H1) (e1 : gt δ i = .ow l m0) (e2 : gs σ i = some v) (o : Own T F1 H1 v m0 A) (S : Sub T F1 H1 v m0 A u m B c) {z : V} (sF : Same F1 F2) (ex : Same F2 H2) (nF : ∀ a, a ∉ B → H1 a ≠ none → NT H2 a → F2 a = F1 a) (fr : ∀ a, a ∉ B → H1 a ≠ none → H2 a = H1 a) (th : ∀ a, H1 a ≠ none → H2 a ≠ none)
    (o2 : Own T F2 H2 u m1 A') (hA' : ∀ a ∈ A', a ∈ B ∨ H1 a = none) (r : RepR T H1 F2 H2 z w) (ap : ∀ m1 B, w = .fr m1 → Own T F2 H2 z m1 B → ∀ a ∈ B, a ∉ A') :
    RepS T G F2 H2 σ (setP δ i (c m1)) ∧ RepW T G G.H0 F2 H2 z w ∧ ApartW T F2 H2 σ (setP δ i (c m1)) z w := by
  have R1 := R.go g
  have hB : ∀ a ∈ A', a ∈ B ∨ H a = none := fun a q => (hA' a q).imp id fun z => g.h.free z
  have R2 := R.plc g e1 e2 o S ex sF nF fr th o2 hB
  refine ⟨R2, ?_, ?_⟩
  · cases w with
    | cl d => exact r
    | bw m => exact r.elim
    | ow m => exact r.elim
    | fr m => obtain ⟨C, oc, hC⟩ := r; exact ⟨C, oc, fun a q => Classical.byContradiction fun z => R1.th a z (hC a q)⟩
  · intro mm j l' m' u' C C' ew ej es oC oC' a q z
    subst ew
    obtain ⟨C0, oc, hC⟩ := r
    cases Own.det oC oc
    by_cases hj : i = j
    · subst hj
      have ei : gt (setP δ i (c m1)) i = .ow l (c m1) := by
        unfold setP
        rw [e1]
        show gt (δ.set i (.ow l (c m1))) i = _
        rw [gt_set (gt_lt (by rw [e1]; simp)), if_pos rfl]
      rw [ei] at ej; cases ej
      rw [e2] at es; cases es
      obtain ⟨A2, oA2, hA2⟩ := S.re (fun a => a ∈ A' ∧ H1 a = none) F2 H2 m1 A' (fun a n q2 => (o.mem a q2).1 n.2) sF nF fr o2 fun a q => (hA' a q).imp id fun z => ⟨q, z⟩
      cases Own.det oC' oA2
      rcases hA2 a z with y | y
      · exact (o.mem a y).1 (hC a q)
      · exact ap mm _ rfl oC a q y.1
    · have ejj : gt (setP δ i (c m1)) j = gt δ j := by
        unfold setP
        rw [e1]
        show gt (δ.set i (.ow l (c m1))) j = _
        rw [gt_set (gt_lt (by rw [e1]; simp)), if_neg hj]
      rw [ejj] at ej
      obtain ⟨u2, D0, e3, oD, _⟩ := R1.own ej
      rw [es] at e3; cases e3
      have dd := R1.dj i j l l' m0 m' v u' A D0 hj e1 ej e2 es o oD
      have oD2 : Own T F2 H2 u' m' D0 := oD.keep sF (fun a q => fr a (fun z => dd a (S.sub a z) q) (oD.mem a q).1) fun a q n => (nF a (fun z => dd a (S.sub a z) q) (oD.mem a q).1 (n.at (fr a (fun z => dd a (S.sub a z) q) (oD.mem a q).1))).trans ((oD.mem a q).2 n)
      cases Own.det oC' oD2
      exact (oD.mem a z).1 (hC a q)
theorem rd_callL {E : XK} {Q : VK} (h : rdX T (aCallL ct al) σ H Q) : tCall (spL T k ct) [] E (rdAL T k al) σ H Q := by
  obtain ⟨G, F, δ, P, R, h, kk⟩ := h
  refine ⟨G, F, δ, _, R, h, fun ws i c m hc us F1 H1 g r hall hk l m0 v A u B e1 e2 o S => ?_⟩
  show spL T k ct (us.insertIdx k u ++ []) H1 Q E
  rw [List.append_nil]
  refine ⟨F1, us, u, m, B, ws, _, rfl, hk, g.ex, argsA_of (R.lendable g e1 e2 o S) r hall, S.ow, hc, fun w m' hP z F2 H2 A' sF ex nF fr th o2 hA' rz ap => ?_⟩
  obtain ⟨q1, q2, q3⟩ := lent_end R g e1 e2 o S sF ex nF fr th o2 hA' rz ap
  exact kk _ _ hP z F2 H2 (g.f.trans sF) q1 q2 q3
theorem e_callL (Fn : FnOk X.prog X.w X.K X.mg X.base CX0 n f fd ps (spL T k ct)) (hr : Room n X.A) (hg : Gl X s) (hm : X.mg s = some (.ref f)) (hk : PySem.W.keepIn X.K (.ref f) = true) (hb : Binds X.K fd ps [])
    (ha : PA X (e :: es) (rdAL T k al)) (hdb : (s == ("__debug__" : Str)) = false := by decide) (he : starEach (e :: es) X.env = (false, eval e X.env) :: starEach es X.env := by rfl) (hpl : (backTo pos (starEach es X.env)).any (·.1) = false := by rfl) :
    PE X (.Call (.Name s p) (e :: es) [] pos) (rdX T (aCallL ct al)) :=
  (pe_call Fn hr hg hm hk hb .nil (E := E0) pass0 ha hdb he hpl).mono fun _ _ _ h => rd_callL h
theorem e_methL {mn : Str} {a : Expr} {plS : Sem Bool} (hC : Cls X.K (T.cl cn)) (hm : Meth X.K (T.cl cn) mn f) (Fn : FnOk X.prog X.w X.K X.mg X.base CX0 n f fd ps (spL T 0 ct)) (hr : Room n X.A) (hb : Binds X.K fd ps []) (hno : mn ∉ T.fs cn) (ho : PE X o (rdP T pl)) (ha : PA X (a :: es) (rdA T xs))
    (hst : starEach (a :: es) X.env = (false, eval a X.env) :: starEach es X.env := by rfl) (hpl : (backTo pos (starEach es X.env)).any (·.1) = false := by rfl)
    (ht : eval (.Call (.Attribute o mn apos) (a :: es) [] pos) X.env = (do
      let ov ← eval o X.env
      standAt apos.atName
      let (f, first) ← holding [ov] (getMethod ov mn plS)
      callWith pos f first (backTo pos (starEach (a :: es) X.env)) (backToKw pos (keywordEach [] X.env))) := by rfl) :
    PE X (.Call (.Attribute o mn apos) (a :: es) [] pos) (rdX T (aMethL cn ct pl xs)) :=
  (pe_meth (E := E0) ho hC hm Fn hr hb .nil pass0 ha hst hpl ht).mono fun σ H Q h => by
    obtain ⟨G, F, δ, P, R, h, kk⟩ := h
    refine ⟨G, F, δ, _, R, h, fun i c m hw F1 H1 g l m0 v A u B e1 e2 o S => ?_⟩
    split at hw
    · rename_i c' ms
      obtain ⟨rfl, hw⟩ := hw
      obtain ⟨p, dx, vs, C, rfl, _, hp, _⟩ := own_ti S.ow
      refine ⟨p, dx, _, rfl, hp, lookup_zip_none hno, ?_⟩
      refine ⟨G, F1, δ, _, R.go g, hw, fun ws ⟨hall, hws⟩ us F2 H2 g2 r2 => ?_⟩
      show spL T 0 ct (.ref p :: (us ++ [])) H2 Q _
      rw [List.append_nil]
      refine ⟨F2, us, .ref p, _, B, ws, _, rfl, Nat.zero_le _, g2.ex, argsA_of (R.lendable g e1 e2 o S) r2 hall, (S.go g2).ow, hws, fun w m' hP z F3 H3 A' sF ex nF fr th o2 hA' rz ap => ?_⟩
      obtain ⟨q1, q2, q3⟩ := lent_end R (g.trans g2) e1 e2 (o.go g2) (S.go g2) sF ex nF fr th o2 hA' rz ap
      exact kk _ _ hP z F3 H3 ((g.trans g2).f.trans sF) q1 q2 q3
    · exact hw.elim
theorem e_methL0 {mn : Str} {plS : Sem Bool} (hC : Cls X.K (T.cl cn)) (hm : Meth X.K (T.cl cn) mn f) (Fn : FnOk X.prog X.w X.K X.mg X.base CX0 n f fd ps (spL T 0 ct)) (hr : Room n X.A) (hb : Binds X.K fd ps []) (hno : mn ∉ T.fs cn) (ho : PE X o (rdP T pl))
    (ht : eval (.Call (.Attribute o mn apos) [] [] pos) X.env = (do
      let ov ← eval o X.env
      standAt apos.atName
      let (f, first) ← holding [ov] (getMethod ov mn plS)
      callWith pos f first (backTo pos (starEach [] X.env)) (backToKw pos (keywordEach [] X.env))) := by rfl) :
    PE X (.Call (.Attribute o mn apos) [] [] pos) (rdX T (aMethL cn ct pl aNil)) :=
  (pe_meth0 (E := E0) ho hC hm Fn hr hb .nil pass0 ht).mono fun σ H Q h => by
    obtain ⟨G, F, δ, P, R, h, kk⟩ := h
    refine ⟨G, F, δ, _, R, h, fun i c m hw F1 H1 g l m0 v A u B e1 e2 o S => ?_⟩
    split at hw
    · rename_i c' ms
      obtain ⟨rfl, hw⟩ := hw
      obtain ⟨p, dx, vs, C, rfl, _, hp, _⟩ := own_ti S.ow
      refine ⟨p, dx, _, rfl, hp, lookup_zip_none hno, ?_⟩
      have hw : ct (.ti c' ms) [] fun w m' => P w (setP δ i (c m')) := hw.2
      show spL T 0 ct (.ref p :: ([] ++ [])) H1 Q E0
      refine ⟨F1, [], .ref p, _, B, [], _, rfl, Nat.zero_le _, g.ex, .nil, S.ow, hw, fun w m' hP z F3 H3 A' sF ex nF fr th o2 hA' rz ap => ?_⟩
      obtain ⟨q1, q2, q3⟩ := lent_end R g e1 e2 o S sF ex nF fr th o2 hA' rz ap
      exact kk _ _ hP z F3 H3 (g.f.trans sF) q1 q2 q3
    · exact hw.elim
end
/-! ### a new object is lent -/
/-- arguments, the last of them a new object -/
abbrev AAN := List AV → (List W → M → Prop) → Prop
def anHere (e : AE) : AAN := fun δ P => e δ fun w => match w with
  | .fr m => P [] m
  | _ => False
def anCons (e : AE) (r : AAN) : AAN := fun δ P => e δ fun w => apW (argW w) = true ∧ r δ fun ws m => P (argW w :: ws) m
def rdAN (T : Tb) (k : Nat) (a : AAN) : TA := fun σ H Q => ∃ G F δ P, RepS T G F H σ δ ∧ a δ P ∧ ∀ ws m, P ws m → ∀ us u F' H' A, Go F H F' H' → RepAs T G F' H' us ws → ws.all apW = true → us.length = k → Own T F' H' u m A → (∀ a ∈ A, H a = none) → (∀ w ∈ ws, apW w = true) → ArgsA T F' H' A us ws → Q (us.insertIdx k u) H'
def aCallN (c : LCt) (al : AAN) : AE := fun δ Q => al δ fun ws m => c m ws fun w _ => Q w
section
variable {T : Tb} {X : Cx} {G : Gx} {F F' F1 F2 H H' H1 H2 : Hp} {σ : L2.St} {δ δ' : List AV} {e o : Expr} {es : List Expr} {x : AE} {an : AAN} {pos p : Pos} {k n : Nat} {ct : LCt} {f : Addr} {fd : FuncData} {ps : List Str} {s : Str}
theorem an_here (he : PE X e (rdE T x)) (hs : starEach [e] X.env = (false, eval e X.env) :: starEach [] X.env := by rfl) : PA X [e] (rdAN T 0 (anHere x)) := (pa_cons he pa_nil hs).mono fun σ H Q h => by
  obtain ⟨G, F, δ, P, R, h, kk⟩ := h
  refine ⟨G, F, δ, _, R, h, fun w hw v F1 H1 g r => ?_⟩
  split at hw
  · rename_i m
    obtain ⟨A, o, hA⟩ := r
    exact kk _ _ hw [] v F1 H1 A g .nil rfl rfl o hA (fun w q => nomatch q) .nil
  · exact hw.elim
theorem an_cons (he : PE X e (rdE T x)) (ha : PA X es (rdAN T k an)) (hs : starEach (e :: es) X.env = (false, eval e X.env) :: starEach es X.env := by rfl) : PA X (e :: es) (rdAN T (k + 1) (anCons x an)) := (pa_cons he ha hs).mono fun σ H Q h => by
  obtain ⟨G, F, δ, P, R, h, kk⟩ := h
  refine ⟨G, F, δ, _, R, h, fun w ⟨hap, hw⟩ v F1 H1 g r => ?_⟩
  obtain ⟨F2, g2, _, _, r2, _⟩ := RepW.arg g r
  refine ⟨G, F2, δ, _, R.go g2, hw, fun ws m hP us u F3 H3 A g3 r3 hall hk o hA hws har => ?_⟩
  have r4 : RepAs T G F2 H1 [v] [argW w] := .cons r2.toA .nil
  have a1 := argsA_new (A := A) hA g3 r4 (by rw [List.all_cons, hap]; rfl)
  refine kk _ _ hP (v :: us) u F3 H3 A (g2.trans g3) (.cons (r2.toA.go g3) r3) (by rw [List.all_cons, hap, hall]; rfl) (by rw [List.length_cons, hk]) o (fun a q => g2.h.free (hA a q)) (fun w' q => ?_) ?_
  · rcases List.mem_cons.mp q with q | q
    · rw [q]; exact hap
    · exact hws w' q
  · cases a1 with
    | cons q t => exact .cons q har
theorem e_callN (Fn : FnOk X.prog X.w X.K X.mg X.base CX0 n f fd ps (spL T k ct)) (hr : Room n X.A) (hg : Gl X s) (hm : X.mg s = some (.ref f)) (hk : PySem.W.keepIn X.K (.ref f) = true) (hb : Binds X.K fd ps [])
    (ha : PA X (e :: es) (rdAN T k an)) (hdb : (s == ("__debug__" : Str)) = false := by decide) (he : starEach (e :: es) X.env = (false, eval e X.env) :: starEach es X.env := by rfl) (hpl : (backTo pos (starEach es X.env)).any (·.1) = false := by rfl) :
    PE X (.Call (.Name s p) (e :: es) [] pos) (rdE T (aCallN ct an)) :=
  (pe_call Fn hr hg hm hk hb .nil (E := E0) pass0 ha hdb he hpl).mono fun σ H Q h => by
    obtain ⟨G, F, δ, P, R, h, kk⟩ := h
    refine ⟨G, F, δ, _, R, h, fun ws m hc us u F1 H1 A g r hall hk o hA hws har => ?_⟩
    show spL T k ct (us.insertIdx k u ++ []) H1 Q E0
    rw [List.append_nil]
    refine ⟨F1, us, u, m, A, ws, _, rfl, by omega, g.ex, har, o, hc, fun w m' hP z F2 H2 A' sF ex nF fr th o2 hA' rz ap => ?_⟩
    have notA : ∀ a, H a ≠ none → a ∉ A := fun a h1 q => h1 (hA a q)
    refine kk _ hP z F2 H2 ⟨fun a x e => ?_, g.f.trans sF, ex, fun a ha => ?_⟩ ?_
    · have h1 : H a ≠ none := by rw [e]; simp
      rw [fr a (notA a h1) (Same.nn g.h h1)]; exact g.h _ _ e
    · exact fun na => (nF a (notA a ha) (Same.nn g.h ha) ((Same.nt g.h ha na).at (fr a (notA a ha) (Same.nn g.h ha)))).trans (g.n a ha na)
    · cases w with
      | cl d => exact rz
      | bw m => exact rz.elim
      | ow m => exact rz.elim
      | fr m => obtain ⟨C, oc, hC⟩ := rz; exact ⟨C, oc, fun a q => g.h.free (hC a q)⟩
end
/-! ### own things handed on as clean data, to a def whose answer holds none of them -/
mutual
/-- no list, dict or instance within -/
def flatD : D → Bool
  | .tup ds => flatDs ds
  | .lst _ => false
  | .ins _ _ => false
  | .dct _ _ _ => false
  | .scr _ => false
  | .nd _ => false
  | _ => true
def flatDs : List D → Bool
  | [] => true
  | d :: ds => flatD d && flatDs ds
end
def flatW : W → Bool
  | .cl d => flatD d
  | .fr (.fl ds) => flatDs ds
  | _ => false
def clAll : W → W
  | .cl d => .cl d
  | .bw m => .cl m.toD
  | .ow m => .cl m.toD
  | .fr m => .cl m.toD
def clAlls : List W → List W
  | [] => []
  | w :: ws => clAll w :: clAlls ws
theorem clAlls_map : ∀ ws : List W, clAlls ws = ws.map clAll
  | [] => rfl
  | w :: ws => by rw [clAlls, clAlls_map ws]; rfl
def aCallF (c : Ct) (es : AA) : AE := fun δ Q => es δ fun ws => c (clAlls ws) fun w => flatW w = true ∧ Q w
section
variable {T : Tb} {X : Cx} {G : Gx} {F F' F1 F2 H H' : Hp} {A : List Addr}
mutual
theorem flat_rep : ∀ {v : V} {d : D}, flatD d = true → Rep T F v d → (∀ a vs, F a = some (.tup vs) → F' a = some (.tup vs)) → Rep T F' v d
  | _, _, _, .non, _ => .non
  | _, _, _, .bl b, _ => .bl b
  | _, _, _, .int b, _ => .int b
  | _, _, _, .str b, _ => .str b
  | _, _, h, .tup q r, k => .tup (k _ _ q) (flat_reps (by simpa [flatD] using h) r k)
  | _, _, h, .lst _ _, _ => by simp [flatD] at h
  | _, _, h, .scr _, _ => by simp [flatD] at h
  | _, _, h, .ins _ _ _, _ => by simp [flatD] at h
  | _, _, h, .dct _ _ _, _ => by simp [flatD] at h
  | _, _, h, .nd _ _ _, _ => by simp [flatD] at h
theorem flat_reps : ∀ {vs : List V} {ds : List D}, flatDs ds = true → Reps T F vs ds → (∀ a vs, F a = some (.tup vs) → F' a = some (.tup vs)) → Reps T F' vs ds
  | _, _, _, .nil, _ => .nil
  | _, d :: ds, h, .cons r t, k => by
    have h' : flatD d = true ∧ flatDs ds = true := by simpa [flatDs] using h
    exact .cons (flat_rep h'.1 r k) (flat_reps h'.2 t k)
end
/-- all arguments as clean data: where their own objects stand -/
theorem args_clean (ex : Same F H) : ∀ {us : List V} {ws : List W}, RepAs T G F H us ws → ∃ A : List Addr, (∀ a ∈ A, H a ≠ none ∧ (NT H a → F a = none)) ∧ ∀ F', Same F F' → (∀ a ∈ A, F' a = H a) → RepAs T G F' H us (ws.map clAll)
  | _, _, .nil => ⟨[], fun a q => (nomatch q), fun _ _ _ => RepAs.nil⟩
  | _, _, .cons (w := w) r t => by
    obtain ⟨A, h1, h2⟩ := args_clean ex t
    have own : ∀ {v : V} {m : M} {B : List Addr}, Own T F H v m B → clAll w = .cl m.toD → ∃ A' : List Addr, (∀ a ∈ A', H a ≠ none ∧ (NT H a → F a = none)) ∧ ∀ F', Same F F' → (∀ a ∈ A', F' a = H a) → RepAs T G F' H (v :: _) (clAll w :: _) := fun {v m B} o e => by
      refine ⟨B ++ A, fun a q => ?_, fun F' sF hF => ?_⟩
      · rcases List.mem_append.mp q with q | q
        · exact o.mem a q
        · exact h1 a q
      · rw [e]
        exact .cons (o.frz sF fun a q => hF a (List.mem_append_left _ q)) (h2 F' sF fun a q => hF a (List.mem_append_right _ q))
    cases w with
    | cl d => exact ⟨A, h1, fun F' sF hF => .cons (Rep.mono sF r) (h2 F' sF hF)⟩
    | bw m => obtain ⟨B, o, _⟩ := r; exact own o rfl
    | ow m => obtain ⟨B, o⟩ := r; exact own o rfl
    | fr m => exact r.elim
open Classical in
noncomputable def cutA (F H : Hp) (A : List Addr) : Hp := fun a => if a ∈ A ∧ NT H a then none else F a
theorem rd_callF {c : Ct} {xs : AA} {E : XK} {σ : L2.St} {Q : VK} (h : rdE T (aCallF c xs) σ H Q) : tCall (spC T c) [] E (rdA T xs) σ H Q := by
  obtain ⟨G, F, δ, P, R, h, k⟩ := h
  refine ⟨G, F, δ, _, R, h, fun ws hw vs F1 H1 g r => ?_⟩
  show spC T c (vs ++ []) H1 Q E
  rw [List.append_nil]
  obtain ⟨A, hA, hr⟩ := args_clean g.ex r
  have sm : Same F1 (ext F1 A H1) := ext_same g.ex
  have ex1 : Same (ext F1 A H1) H1 := fun a o e => by
    by_cases q : a ∈ A
    · rw [ext_in q] at e; exact e
    · rw [ext_out q] at e; exact g.ex _ _ e
  rw [clAlls_map] at hw
  refine ⟨G, ext F1 A H1, ws.map clAll, _, ex1, hr _ sm fun a q => ext_in q, hw, fun w ⟨hf, hP⟩ v F2 H2 g2 r2 => ?_⟩
  have out : ∀ {a}, ¬ (a ∈ A ∧ NT H1 a) → cutA F2 H1 A a = F2 a := fun h => if_neg h
  have tups : ∀ a vs, F2 a = some (.tup vs) → cutA F2 H1 A a = some (.tup vs) := fun a vs e => by
    have : ¬ (a ∈ A ∧ NT H1 a) := fun ⟨q, nt⟩ => by
      have h1 := g2.n a (hA a q).1 nt
      rw [ext_in q] at h1
      rw [h1] at e
      exact nt vs e
    rw [out this]; exact e
  have g3 : Go F1 H1 (cutA F2 H1 A) H2 := by
    refine ⟨g2.h, fun a o e => ?_, fun a o e => ?_, fun a ha na => ?_⟩
    · have : ¬ (a ∈ A ∧ NT H1 a) := fun ⟨q, nt⟩ => by rw [(hA a q).2 nt] at e; cases e
      rw [out this]; exact g2.f _ _ (sm _ _ e)
    · by_cases q : a ∈ A ∧ NT H1 a
      · have : cutA F2 H1 A a = none := if_pos q
        rw [this] at e; cases e
      · rw [out q] at e; exact g2.ex _ _ e
    · by_cases q : a ∈ A
      · rw [(hA a q).2 na]; exact if_pos ⟨q, na⟩
      · rw [out fun z => q z.1, g2.n a ha na, ext_out q]
  refine k w hP v (cutA F2 H1 A) H2 (g.trans g3) ?_
  cases w with
  | cl d => exact flat_rep hf r2 tups
  | bw m => cases hf
  | ow m => cases hf
  | fr m =>
    cases m with
    | fl ds =>
      obtain ⟨B, o, hB⟩ := r2
      obtain ⟨p, us, rfl, rfl, hp, hfp, rr⟩ := own_fl o
      refine ⟨[p], .fl hp ?_ (flat_reps hf rr tups), fun a q => g.h.free (hB a q)⟩
      unfold cutA
      split
      · rfl
      · exact hfp
    | cl _ => cases hf
    | fd _ _ _ => cases hf
    | tl _ => cases hf
    | td _ _ _ => cases hf
    | ti _ _ => cases hf
    | tp _ => cases hf
    | nd _ => cases hf
variable {k : Nat} {f C : Addr} {fd : FuncData} {ps : List Str} {x : Str} {p pos apos : Pos} {e o : Expr} {es : List Expr} {c : Ct} {xs : AA}
theorem e_callF (Fn : FnOk X.prog X.w X.K X.mg X.base CX0 k f fd ps (spC T c)) (hr : Room k X.A) (hg : Gl X x) (hm : X.mg x = some (.ref f)) (hk : PySem.W.keepIn X.K (.ref f) = true) (hb : Binds X.K fd ps [])
    (ha : PA X (e :: es) (rdA T xs)) (hdb : (x == ("__debug__" : Str)) = false := by decide) (he : starEach (e :: es) X.env = (false, eval e X.env) :: starEach es X.env := by rfl) (hpl : (backTo pos (starEach es X.env)).any (·.1) = false := by rfl) :
    PE X (.Call (.Name x p) (e :: es) [] pos) (rdE T (aCallF c xs)) :=
  (pe_call Fn hr hg hm hk hb .nil (E := E0) pass0 ha hdb he hpl).mono fun _ _ _ h => rd_callF h
end
def startL (n k : Nat) (m : M) (ws : List W) : List AV := (ws.map avOf).insertIdx k (.ow true m) ++ List.replicate (n - (ws.length + 1)) .non
section
variable {T : Tb} {F H : Hp} {c : LCt} {k n : Nat} {f : Addr} {fd : FuncData} {P : Program} {wd : World} {K : PySem.W.Frag} {mg : Str → Option Value} {base : Heap}
theorem ArgsA.length {A : List Addr} : ∀ {us : List V} {ws : List W}, ArgsA T F H A us ws → us.length = ws.length
  | _, _, .nil => rfl
  | _, _, .cons _ t => by simp [ArgsA.length t]
theorem ArgsA.get {A : List Addr} : ∀ {us : List V} {ws : List W} {i : Nat} {w : W}, ArgsA T F H A us ws → ws[i]? = some w → ∃ v, us[i]? = some v ∧ ArgA T F H A v w
  | _, _, _, _, .nil, h => by simp at h
  | _, _, 0, _, .cons r _, h => by simp at h; subst h; exact ⟨_, rfl, r⟩
  | _, _, i + 1, _, .cons _ t, h => by simpa using ArgsA.get (i := i) t (by simpa using h)
theorem repS_startL {N : Nat} {us : List V} {ws : List W} {v0 : V} {m : M} {A : List Addr} (sm : Same F H) (r : ArgsA T F H A us ws) (o : Own T F H v0 m A) (hk : k ≤ us.length) (hN : ws.length + 1 ≤ N) (Nm : List Str) (hNm : Nm.length = N) :
    RepS T ⟨H, F, A, v0⟩ F H (L2.start Nm (us.insertIdx k v0)) (startL N k m ws) := by
  have hl := r.length
  have hul : (us.insertIdx k v0).length = us.length + 1 := by rw [List.length_insertIdx, if_pos hk]
  have hdl : ((ws.map avOf).insertIdx k (.ow true m)).length = ws.length + 1 := by rw [List.length_insertIdx, if_pos (by rw [List.length_map]; omega), List.length_map]
  have hst : ∀ i, gs (L2.start Nm (us.insertIdx k v0)) i = (us.insertIdx k v0)[i]? := fun i => by
    unfold gs L2.start
    rw [List.getD_eq_getElem?_getD]
    by_cases hi : i < (us.insertIdx k v0).length
    · rw [List.getElem?_append_left (by simpa using hi), List.getElem?_map]
      cases (us.insertIdx k v0)[i]? <;> rfl
    · rw [List.getElem?_append_right (by simpa using hi), List.getElem?_replicate, List.getElem?_eq_none_iff.mpr (by omega)]
      split <;> rfl
  have hgt : ∀ i, gt (startL N k m ws) i = (((ws.map avOf).insertIdx k (.ow true m))[i]?).getD .non := fun i => by
    unfold gt startL
    rw [List.getD_eq_getElem?_getD]
    by_cases hi : i < ((ws.map avOf).insertIdx k (.ow true m)).length
    · rw [List.getElem?_append_left hi]
    · rw [List.getElem?_append_right (by omega), List.getElem?_replicate, List.getElem?_eq_none_iff.mpr (show ((ws.map avOf).insertIdx k (.ow true m)).length ≤ i by omega)]
      split <;> rfl
  have at_ : ∀ i, (i = k ∧ gs (L2.start Nm (us.insertIdx k v0)) i = some v0 ∧ gt (startL N k m ws) i = .ow true m) ∨ (i ≠ k ∧ ((gt (startL N k m ws) i = .non) ∨ ∃ u w, gs (L2.start Nm (us.insertIdx k v0)) i = some u ∧ gt (startL N k m ws) i = avOf w ∧ ArgA T F H A u w)) := fun i => by
    rw [hst, hgt, List.getElem?_insertIdx, List.getElem?_insertIdx, List.length_map]
    by_cases h1 : i < k
    · rw [if_pos h1, if_pos h1, List.getElem?_map]
      refine .inr ⟨by omega, ?_⟩
      cases e : ws[i]? with
      | none => exact .inl rfl
      | some d =>
        obtain ⟨u, hu, ru⟩ := r.get e
        exact .inr ⟨u, d, hu, rfl, ru⟩
    · rw [if_neg h1, if_neg h1]
      by_cases h2 : i = k
      · rw [if_pos h2, if_pos h2, if_pos (by omega), if_pos (by omega)]
        exact .inl ⟨h2, rfl, rfl⟩
      · rw [if_neg h2, if_neg h2, List.getElem?_map]
        refine .inr ⟨h2, ?_⟩
        cases e : ws[i - 1]? with
        | none => exact .inl rfl
        | some d =>
          obtain ⟨u, hu, ru⟩ := r.get e
          exact .inr ⟨u, d, hu, rfl, ru⟩
  have nown : ∀ {w : W} {u : V} {l : Bool} {m' : M}, ArgA T F H A u w → avOf w ≠ .ow l m' := fun {w u l m'} q e => by cases w <;> cases e
  refine ⟨sm, fun a o h _ => h, fun a h => h, fun a h => (o.mem a h).1, Same.refl _, fun a _ _ _ => rfl, ?_, fun i => ?_, fun i j l l' m1 m2 u w A1 B1 ne e1 e2 => ?_⟩
  · unfold startL L2.start
    rw [List.length_append, List.length_replicate, hdl, List.length_append, List.length_replicate, List.length_map, hul, hNm, hl]
  · rcases at_ i with ⟨_, e1, e2⟩ | ⟨_, e2 | ⟨u, w, e1, e2, ru⟩⟩
    · rw [e1, e2]; exact ⟨v0, A, rfl, o, rfl, fun a q => .inl q⟩
    · rw [e2]; trivial
    · rw [e1, e2]
      cases w with
      | cl d => exact ⟨u, rfl, ru⟩
      | bw m => obtain ⟨B, ob, hB⟩ := ru; exact ⟨u, B, rfl, ob, fun a q => ⟨hB a q, (ob.mem a q).1⟩⟩
      | ow m => exact ru.elim
      | fr m => exact ru.elim
  · rcases at_ i with ⟨h1, _, _⟩ | ⟨_, q | ⟨_, _, _, q, ra⟩⟩
    · rcases at_ j with ⟨h2, _, _⟩ | ⟨_, q | ⟨_, _, _, q, ra⟩⟩
      · exact absurd (h1.trans h2.symm) ne
      · rw [q] at e2; cases e2
      · rw [q] at e2; exact absurd e2 (nown ra)
    · rw [q] at e1; cases e1
    · rw [q] at e1; exact absurd e1 (nown ra)
/-- THE RULE for a def that is lent an object -/
theorem fn_okL {y qual : Str} {st : Stmt} {N ps : List Str} {a : AS} (Fn : Fun K y qual st f fd) (S : FnScope N ps (defScope st)) (len : ∀ m ws P, c m ws P → ws.length + 1 = ps.length) (hN : ps.length ≤ N.length)
    (hd : ∀ (cdv : Value) (A : Around) (outer : List Env) (s : Shared) (H : Hp) (E : XK), Room n (A.deeper (envOfC qual (defScope st) s.heap.objs.size f cdv)) →
      PSs (cxOf CX0 P wd K mg base N qual (defScope st) f cdv A outer s H E).nox (defBody st) (rdS T a))
    (hw : ∀ m ws P, c m ws P → a { nx := fun δ => ∃ m', gt δ k = .ow true m' ∧ P (.cl .non) m', rt := fun w δ => ∃ m', gt δ k = .ow true m' ∧ P w m' } (startL N.length k m ws)) : FnOk P wd K mg base CX0 (n + 1) f fd ps (spL T k c) := by
  refine Fn.ok S (fun vs H Q E h => ?_) (fun cdv A outer s H vs Q E hr h => ?_)
  · obtain ⟨F, us, v0, m, A, ws, P, rfl, hk, sm, r, o, hc, _⟩ := h
    rw [List.length_insertIdx, if_pos hk, r.length]; exact len m ws P hc
  · obtain ⟨F, us, v0, m, A, ws, P, rfl, hk, sm, r, o, hc, kk⟩ := h
    refine ⟨_, hd cdv _ outer s H E hr, ?_⟩
    have R := repS_startL sm r o hk (by rw [len m ws P hc]; exact hN) N rfl
    refine ⟨_, F, _, _, R, hw m ws P hc, ?_⟩
    have fin : ∀ {F' H' : Hp} {σ' : L2.St} {δ' : List AV} {w : W} {v : V} {m' : M}, RepS T ⟨H, F, A, v0⟩ F' H' σ' δ' → gt δ' k = .ow true m' → P w m' → RepR T H F' H' v w → Apart T F' H' σ' δ' v w → Q v H' := fun {F' H' σ' δ' w v m'} R' e hP rr ap => by
      obtain ⟨u, A', e2, o', rfl, hA'⟩ := R'.own e
      exact kk w m' hP v F' H' A' R'.f0 R'.ex (fun a l h n => R'.fn a h l n) (fun a hn h => by
        cases q : H a with
        | none => exact absurd q h
        | some ob => exact R'.fr a ob q hn) R'.th o' hA' rr fun m1 B ew o1 => ap m1 k m' _ B A' ew e e2 o1 o'
    refine ⟨fun δ' ⟨m', e, q⟩ F' H' σ' s R' => fin R' e q .non apart_cl, fun w δ' ⟨m', e, q⟩ v F' H' σ' s R' r' ap => fin R' e q r' ap, fun δ' q => q.elim, fun δ' q => q.elim⟩
end
/-! ### own classes whose objects change: __init__ -/
abbrev IniO := List D → (List M → Prop) → Prop
def spIO (T : Tb) (c : Nat) (ini : IniO) : Sp := fun vs H Q _ => ∃ (F : Hp) (x dx : Addr) (us : List V) (ds : List D) (P : List M → Prop), vs = .ref x :: us ∧ H x = some (.ins (T.cl c) dx []) ∧ F x = none ∧ Same F H ∧ Reps T F us ds ∧ ini ds P ∧
  ∀ ms, P ms → ∀ F' H' vs' B, (∀ b o, b ≠ x → H b = some o → H' b = some o) → Same F F' → Same F' H' → (∀ a, H a ≠ none → NT H' a → F' a = F a) → H' x = some (.ins (T.cl c) dx ((T.fs c).zip vs')) → (T.fs c).length = vs'.length → Owns T F' H' vs' ms B → (∀ a ∈ B, H a = none) → Q .non H'
def aMakeO (c : Nat) (ini : IniO) (es : AA) : AE := fun δ Q => es δ fun ws => match clDs ws with
  | some ds => ini ds fun ms => Q (.fr (.ti c ms))
  | none => False
section
variable {T : Tb} {X : Cx} {e : Expr} {es : List Expr} {xs : AA} {pos p : Pos} {c k : Nat} {f : Str} {fa : Addr} {fd : FuncData} {ps : List Str} {ini : IniO}
theorem e_makeO (M : Mk X.K (T.cl c) fa) (Fn : FnOk X.prog X.w X.K X.mg X.base CX0 k fa fd ps (spIO T c ini)) (hr : Room (k + 1) X.A) (hg : Gl X f) (hm : X.mg f = some (.ref (T.cl c))) (hb : Binds X.K fd ps []) (ha : PA X (e :: es) (rdA T xs))
    (hdb : (f == ("__debug__" : Str)) = false := by decide) (he : starEach (e :: es) X.env = (false, eval e X.env) :: starEach es X.env := by rfl) (hpl : (backTo pos (starEach es X.env)).any (·.1) = false := by rfl) :
    PE X (.Call (.Name f p) (e :: es) [] pos) (rdE T (aMakeO c ini xs)) :=
  (pe_make (E := E0) M Fn hr hg hm hb .nil pass0 ha hdb he hpl).mono fun σ H Q h => by
    obtain ⟨G, F, δ, P, R, h, kk⟩ := h
    refine ⟨G, F, δ, _, R, h, fun ws hw us F1 H1 g r x dx hx hdx ne => ?_⟩
    rw [List.append_nil]
    split at hw
    · rename_i ds hd
      have hx2 : (upd H1 dx (.own x)) x = none := by rw [upd_ne ne.symm]; exact hx
      have g1 : Go F1 H1 F1 (upd (upd H1 dx (.own x)) x (.ins (T.cl c) dx [])) := ((Go.refl g.ex).lay hdx).lay hx2
      have fx : F1 x = none := g.ex.free hx
      refine ⟨F1, x, dx, us, ds, _, rfl, upd_same, fx, g1.ex, reps_cl r hd, hw, fun ms hms F' H' vs' B q1 q2 q3 q4 q5 q6 q7 q8 => ⟨rfl, ?_⟩⟩
      have fx' : F' x = none := by rw [q4 x (by rw [upd_same]; simp) (nt_of q5)]; exact fx
      have xB : x ∉ B := fun q => by have := q8 x q; rw [upd_same] at this; cases this
      have h1 : Same H H' := fun b o e => q1 b o (ne_of_none (g.h _ _ e) hx) (g1.h _ _ (g.h _ _ e))
      refine kk _ hms _ F' H' ⟨h1, g.f.trans q2, q3, fun a ha na => (q4 a (Same.nn g1.h (Same.nn g.h ha)) (Same.nt h1 ha na)).trans (g.n a ha na)⟩ ⟨x :: B, .ti q5 fx' q6 xB q7, fun a q => ?_⟩
      rcases List.mem_cons.mp q with q | q
      · rw [q]; exact g.h.free hx
      · have hn := q8 a q
        exact Classical.byContradiction fun z => (Same.nn g1.h (Same.nn g.h z)) hn
    · exact hw.elim
end
structure IniSO (T : Tb) (c : Nat) (G : Gx) (F H : Hp) (σ : L2.St) (δ : List AV) (x dx : Addr) (vs : List V) (ms : List M) (B : List Addr) : Prop where
  R : RepS T G F H σ δ
  L : G.L = [x]
  g0 : σ[0]? = some (some (.ref x))
  ob : H x = some (.ins (T.cl c) dx (((T.fs c).take vs.length).zip vs))
  ln : vs.length ≤ (T.fs c).length
  sm : (T.fs c).length < 1000
  fx : F x = none
  ow : Owns T F H vs ms B
  hB : ∀ a ∈ B, G.H0 a = none
  now : ∀ i l m, gt δ i ≠ .ow l m
abbrev AFO := List AV → List M → (List M → Prop) → Prop
def rdFO (T : Tb) (c : Nat) (a : AFO) : TS := fun D σ H => ∃ G F δ x dx vs ms B P, IniSO T c G F H σ δ x dx vs ms B ∧ a δ ms P ∧ ∀ ms', P ms' → ∀ F' H' vs' B', Same F F' → IniSO T c G F' H' σ δ x dx vs' ms' B' → D.nx σ H'
def aFO (n : Nat) (x : AE) : AFO := fun δ ms P => ms.length = n ∧ x δ fun w => match kidW w with
  | some m => P (ms ++ [m])
  | none => False
def aFsO (a b : AFO) : AFO := fun δ ms P => a δ ms fun ms' => b δ ms' P
section
variable {T : Tb} {X : Cx} {e : Expr} {st : Stmt} {rest : List Stmt} {x : AE} {pos p1 p2 : Pos} {c n : Nat} {f s : Str} {a b : AFO}
theorem i_fldO (hTK : T.K = X.K) (hC : Cls X.K (T.cl c)) (hn : NoAttr X.K (T.cl c) f) (hd : (T.fs c).Nodup) (hj : (T.fs c)[n]? = some f) (hN : X.N[0]? = some s) (he : PE X e (rdE T x)) (hs : swapsWith e (some (.Attribute (.Name s p1) f p2)) pos.line X.env = pure false := by rfl)
    (hv : Vis X.env.scope s := by first | exact Or.inl rfl | exact Or.inr (Or.inl rfl) | exact Or.inr (Or.inr rfl)) (hdd : (s == ("__debug__" : Str)) = false := by decide) (hcd : (s == ("__classdict__" : Str)) = false := by decide) : PS X (.Assign [.Attribute (.Name s p1) f p2] e pos) (rdFO T c (aFO n x)) :=
  (ps_fld (pe_var hN hv hdd hcd) he hs).mono fun D σ H h => by
    obtain ⟨G, F, δ, x, dx, vs, ms, B, P, S, ⟨hl, h⟩, k⟩ := h
    refine ⟨G, F, δ, _, S.R, h, fun w hw v F1 H1 g r => ?_⟩
    split at hw
    · rename_i m hm
      obtain ⟨D', od, hD⟩ := kid_own g r hm
      have hob := g.h _ _ S.ob
      have hvl : vs.length = n := S.ow.length.trans hl
      refine ⟨_, S.g0, x, _, dx, _, rfl, hob, hC, hn, ?_, ?_⟩
      · rw [List.length_zip, List.length_take]
        have := S.sm
        have := S.ln
        omega
      · have hfx : F1 x = none := by rw [g.n x (by rw [S.ob]; simp) (nt_of S.ob)]; exact S.fx
        rw [putF_zip hd (by rw [hvl]; exact hj)]
        have R2 := S.R.go g
        have hlt : vs.length < (T.fs c).length := by
          apply Classical.byContradiction
          intro q
          rw [List.getElem?_eq_none_iff.mpr (by omega)] at hj
          cases hj
        have hxL : x ∈ G.L := by rw [S.L]; exact List.mem_cons_self
        have hx0 : G.H0 x ≠ none := S.R.lh x hxL
        have xB : x ∉ B := fun q => hx0 (S.hB x q)
        have xD : x ∉ D' := fun q => by have := hD x q; rw [S.ob] at this; cases this
        have ow1 := (S.ow.go g).keep (H' := upd H1 x (.ins (T.cl c) dx (((T.fs c).take (vs ++ [v]).length).zip (vs ++ [v])))) (Same.refl _) (fun a q => upd_ne fun z => xB (z ▸ q)) fun a q => ((S.ow.go g).mem a q).2
        have od1 := od.keep (H' := upd H1 x (.ins (T.cl c) dx (((T.fs c).take (vs ++ [v]).length).zip (vs ++ [v])))) (Same.refl _) (fun a q => upd_ne fun z => xD (z ▸ q)) fun a q => (od.mem a q).2
        obtain ⟨B2, ow2, hB2⟩ := ow1.snoc (N := fun a => H a = none) od1 hD fun a n q => (S.ow.mem a q).1 n
        refine k _ hw F1 _ (vs ++ [v]) B2 g.f ⟨⟨?_, ?_, ?_, R2.lh, R2.f0, (fun a h l n => R2.fn a h l (n.upd (nt_of hob))), R2.len, ?_, ?_⟩, S.L, S.g0, upd_same, by rw [List.length_append, List.length_singleton]; omega, S.sm, hfx, ow2, fun a q => ?_, S.now⟩
        · intro q o e
          rw [upd_ne (ne_of_none e hfx)]; exact R2.ex _ _ e
        · intro q o e hq
          have : q ≠ x := fun z => hq (z ▸ hxL)
          rw [upd_ne this]; exact R2.fr q o e hq
        · intro q hq z
          by_cases e : q = x
          · rw [e, upd_same] at z; cases z
          · rw [upd_ne e] at z; exact R2.th q hq z
        · intro i
          have q := R2.sl i
          revert q
          generalize hg : gt δ i = av
          intro q
          cases av with
          | non => trivial
          | im d => exact q
          | bw m =>
            obtain ⟨w, A, e1, o, hA⟩ := q
            exact ⟨w, A, e1, o.keep (Same.refl _) (fun a q => upd_ne fun z => (hA a q).1 (z ▸ hxL)) (fun a q => (o.mem a q).2), hA⟩
          | ow l m => exact absurd hg (S.now i l m)
        · intro i j l l' m m' u w A B ne e1
          exact absurd e1 (S.now i l m)
        · rcases hB2 a q with z | z
          · exact S.hB a z
          · exact Classical.byContradiction fun y => S.R.th a y z
    · exact hw.elim
theorem i_oneO (h1 : PS X st (rdFO T c a)) : PSs X [st] (rdFO T c a) := pss_one h1
theorem i_consO (h1 : PS X st (rdFO T c a)) (h2 : PSs X rest (rdFO T c b)) : PSs X (st :: rest) (rdFO T c (aFsO a b)) := (pss_cons h1 h2).mono fun D σ H h => by
  obtain ⟨G, F, δ, x, dx, vs, ms, B, P, S, h, k⟩ := h
  exact ⟨G, F, δ, x, dx, vs, ms, B, _, S, h, fun ms' q F' H' vs' B' s S' => ⟨G, F', δ, x, dx, vs', ms', B', P, S', q, fun ms2 q2 F2 H2 vs2 B2 s2 S2 => k ms2 q2 F2 H2 vs2 B2 (s.trans s2) S2⟩⟩
end
section
variable {T : Tb} {P : Program} {wd : World} {K : PySem.W.Frag} {mg : Str → Option Value} {base : Heap} {f : Addr} {fd : FuncData} {k c : Nat} {ini : IniO} {a : AFO}
theorem repS_clean {F H : Hp} {x dx C : Addr} {us : List V} {ds : List D} (sm : Same F H) (r : Reps T F us ds) (hx : H x = some (.ins C dx [])) (Nm : List Str) (hNm : Nm.length = us.length + 1) : RepS T ⟨H, F, [x], .non⟩ F H (L2.start Nm (.ref x :: us)) (.non :: ds.map .im) := by
  have h := repS_ini (ws := ds.map W.cl) (vs := us) sm ⟨by rw [List.length_map]; exact r.length, fun i w hw => by
    rw [List.getElem?_map] at hw
    cases e : ds[i]? with
    | none => rw [e] at hw; cases hw
    | some d =>
      rw [e] at hw; cases hw
      obtain ⟨v, hv, rv⟩ := r.getD e
      exact ⟨v, hv, rv⟩⟩ hx Nm hNm
  rw [List.map_map] at h
  exact h
theorem fn_iniO {y qual : Str} {st : Stmt} {N : List Str} (Fn : Fun K y qual st f fd) (S : FnScope N N (defScope st)) (len : ∀ ds P, ini ds P → ds.length + 1 = N.length) (hsm : (T.fs c).length < 1000)
    (hd : ∀ (cdv : Value) (A : Around) (outer : List Env) (s : Shared) (H : Hp) (E : XK), Room k (A.deeper (envOfC qual (defScope st) s.heap.objs.size f cdv)) →
      PSs (cxOf CX0 P wd K mg base N qual (defScope st) f cdv A outer s H E).nox (defBody st) (rdFO T c a))
    (hw : ∀ ds P, ini ds P → a (.non :: ds.map .im) [] fun ms => ms.length = (T.fs c).length ∧ P ms) : FnOk P wd K mg base CX0 (k + 1) f fd N (spIO T c ini) := by
  refine Fn.ok S (fun vs H Q E h => ?_) (fun cdv A outer s H vs Q E hr h => ?_)
  · obtain ⟨F, x, dx, us, ds, P, rfl, hx, fx, sm, r, hi, kk⟩ := h
    rw [← len ds P hi, List.length_cons, r.length]
  · obtain ⟨F, x, dx, us, ds, P, rfl, hx, fx, sm, r, hi, kk⟩ := h
    refine ⟨_, hd cdv A outer s H E hr, ?_⟩
    refine ⟨_, F, _, x, dx, [], [], [], _, ⟨repS_clean sm r hx N (by rw [r.length]; exact (len ds P hi).symm), rfl, rfl, by rw [hx]; rfl, Nat.zero_le _, hsm, fx, .nil, fun a q => (nomatch q), fun i l m e => ?_⟩, hw ds P hi, fun ms ⟨hl, hP⟩ F' H' vs' B s S => ?_⟩
    · cases i with
      | zero => cases e
      | succ i =>
        unfold gt at e
        rw [List.getD_eq_getElem?_getD, List.getElem?_cons_succ, List.getElem?_map] at e
        cases e2 : ds[i]? with
        | none => rw [e2] at e; cases e
        | some d => rw [e2] at e; cases e
    · have hvl : vs'.length = (T.fs c).length := S.ow.length.trans hl
      have ho := S.ob
      rw [hvl, List.take_length] at ho
      exact kk ms hP F' H' vs' B (fun b o hb e => S.R.fr b o e (by simpa using hb)) s S.R.ex (fun a h n => by
        by_cases q : a = x
        · subst q; exact S.fx.trans fx.symm
        · exact S.R.fn a h (fun z => q (List.mem_singleton.mp z)) n) ho hvl.symm S.ow S.hB
end
end Vl
/-! Displays of own things; comprehensions over own lists; methods with an answer; loops over what has an effect. -/
namespace Vl
open PySem PySem.Spec PyProof.Rows L2

/-! ### displays of own things -/
abbrev AAO := List AV → (List M → Prop) → Prop
def aoNil : AAO := fun _ P => P []
def aoCons (e : AE) (r : AAO) : AAO := fun δ P => e δ fun w => match kidW w with
  | some m => r δ fun ms => P (m :: ms)
  | none => False
def rdAO (T : Tb) (a : AAO) : TA := fun σ H Q => ∃ G F δ P, RepS T G F H σ δ ∧ a δ P ∧ ∀ ms, P ms → ∀ vs F' H' B, Go F H F' H' → Owns T F' H' vs ms B → (∀ a ∈ B, H a = none) → Q vs H'
def aLstO (es : AAO) : AE := fun δ Q => es δ fun ms => ms.length ≤ 1000000 ∧ Q (.fr (.tl ms))
def dispGo : List (Str × AE) → List AV → (List M → Prop) → Prop
  | [], _, P => P []
  | (_, x) :: r, δ, P => x δ fun w => match kidW w with
    | some m => dispGo r δ fun ms => P (m :: ms)
    | none => False
/-- {'a': x, ..} -/
def aDisp (xs : List (Str × AE)) : AE := fun δ Q => dispGo xs δ fun ms => Q (.fr (.td false (xs.map fun p => [Sum.inr p.1]) ms))
section
variable {T : Tb} {X : Cx} {e : Expr} {es : List Expr} {x : AE} {xs : AAO} {pos : Pos}
theorem ao_nil : PA X [] (rdAO T aoNil) := pa_nil.mono fun σ H Q h => by
  obtain ⟨G, F, δ, P, R, h, k⟩ := h
  exact k _ h [] F H [] (Go.refl R.ex) .nil fun a q => nomatch q
theorem ao_cons (ha : PE X e (rdE T x)) (hr : PA X es (rdAO T xs)) (hs : starEach (e :: es) X.env = (false, eval e X.env) :: starEach es X.env := by rfl) : PA X (e :: es) (rdAO T (aoCons x xs)) :=
  (pa_cons ha hr hs).mono fun σ H Q h => by
    obtain ⟨G, F, δ, P, R, h, k⟩ := h
    refine ⟨G, F, δ, _, R, h, fun w hw v F1 H1 g r => ?_⟩
    split at hw
    · rename_i m hm
      obtain ⟨D, od, hD⟩ := kid_own g r hm
      refine ⟨G, F1, δ, _, R.go g, hw, fun ms hms vs F2 H2 B g2 t hB => ?_⟩
      refine k _ hms (v :: vs) F2 H2 (D ++ B) (g.trans g2) (.cons (od.go g2) t fun a q z => (od.mem a q).1 (hB a z)) fun a q => ?_
      rcases List.mem_append.mp q with q | q
      · exact hD a q
      · exact g.h.free (hB a q)
    · exact hw.elim
theorem e_lstO (h : PA X es (rdAO T xs)) : PE X (.List es pos) (rdE T (aLstO xs)) := (pe_lst h).mono fun σ H Q h => by
  obtain ⟨G, F, δ, P, R, h, k⟩ := h
  refine ⟨G, F, δ, _, R, h, fun ms hw vs F1 H1 B g t hB => ?_⟩
  obtain ⟨l, q⟩ := hw
  refine ⟨by rw [t.length]; exact dSz_line l, fun p hp => ?_⟩
  have pB : p ∉ B := fun z => (t.mem p z).1 hp
  refine k _ q _ F1 _ (g.lay hp) ⟨p :: B, .tl upd_same (g.ex.free hp) pB (t.keep (Same.refl _) (fun a z => upd_ne fun y => pB (y ▸ z)) fun a z => (t.mem a z).2), fun a z => ?_⟩
  rcases List.mem_cons.mp z with z | z
  · rw [z]; exact g.h.free hp
  · exact hB a z
def trsOf (T : Tb) (xs : List (Str × AE)) : List (TE × TE) := xs.map fun p => (tC (.str p.1), rdE T p.2)
theorem rd_pairs {G : Gx} : ∀ {xs : List (Str × AE)} {F H : Hp} {σ : L2.St} {δ : List AV} {P : List M → Prop} {Q : List (V × V) → Hp → Prop}, RepS T G F H σ δ → dispGo xs δ P →
    (∀ ms, P ms → ∀ vs F' H' B, Go F H F' H' → Owns T F' H' vs ms B → (∀ a ∈ B, H a = none) → vs.length = xs.length → Q ((xs.map fun p => V.str p.1).zip vs) H') → tPairs (trsOf T xs) σ H Q
  | [], F, H, σ, δ, P, Q, R, h, k => k _ h [] F H [] (Go.refl R.ex) .nil (fun a q => nomatch q) rfl
  | (s, x) :: xs, F, H, σ, δ, P, Q, R, h, k => by
    show rdE T x σ H _
    refine ⟨G, F, δ, _, R, h, fun w hw v F1 H1 g r => ?_⟩
    split at hw
    · rename_i m hm
      obtain ⟨D, od, hD⟩ := kid_own g r hm
      refine rd_pairs (R.go g) hw fun ms hms vs F2 H2 B g2 t hB hl => ?_
      refine k _ hms (v :: vs) F2 H2 (D ++ B) (g.trans g2) (.cons (od.go g2) t fun a q z => (od.mem a q).1 (hB a z)) (fun a q => ?_) (by simp [hl])
      rcases List.mem_append.mp q with q | q
      · exact hD a q
      · exact g.h.free (hB a q)
    · exact hw.elim
theorem mergeK_new : ∀ {more kvs : List (Key × V)}, ((kvs ++ more).map (·.1)).Nodup → mergeK kvs more = kvs ++ more
  | [], kvs, _ => by simp [mergeK]
  | p :: more, kvs, nd => by
    show mergeK (putK kvs p.1 p.2) more = _
    have hn : ¬ (kvs.any fun kv => decide (kv.1 = p.1)) = true := fun z => by
      obtain ⟨q, hq, e⟩ := List.any_eq_true.mp z
      rw [List.map_append, List.nodup_append] at nd
      exact nd.2.2 q.1 (List.mem_map.mpr ⟨q, hq, rfl⟩) p.1 (by simp) (of_decide_eq_true e)
    have e1 : putK kvs p.1 p.2 = kvs ++ [p] := by unfold putK; rw [if_neg hn]
    rw [e1, mergeK_new (by rw [List.append_assoc]; exact nd), List.append_assoc]
    rfl
theorem e_disp {keys : List (Option Expr)} {values : List Expr} {xs : List (Str × AE)} (h : PPs X pos keys values (trsOf T xs)) (nd : (xs.map (·.1)).Nodup) (h15 : xs.length ≤ 15) (hall : keys.all (·.isSome) = true := by rfl) (hl : keys.length = values.length := by rfl) (h0 : keys ≠ [] := by intro z; cases z)
    (hk15 : keys.length ≤ 15 := by decide) : PE X (.Dict keys values pos) (rdE T (aDisp xs)) := (pe_disp h hall hl h0 hk15).mono fun σ H Q h => by
  obtain ⟨G, F, δ, P, R, h, k⟩ := h
  intro p hp
  have g0 : Go F H F (upd H p (.dK [])) := (Go.refl R.ex).lay hp
  refine rd_pairs (R.go g0) h fun ms hms vs F2 H2 B g t hB hl => ⟨g.h _ _ upd_same, (xs.map (fun p => (Sum.inr p.1 : Key))).zip vs, ?_, ?_, ?_⟩
  · apply List.ext_getElem?
    intro i
    simp only [List.getElem?_map, List.getElem?_zip_eq_some, List.zip, List.getElem?_zipWith]
    cases xs[i]? <;> cases vs[i]? <;> rfl
  · rw [List.length_zip, List.length_map]; omega
  · have e1 : ((xs.map (fun p => (Sum.inr p.1 : Key))).zip vs).map (·.1) = xs.map fun p => (Sum.inr p.1 : Key) := List.map_fst_zip (by rw [List.length_map]; omega)
    have e2 : ((xs.map (fun p => (Sum.inr p.1 : Key))).zip vs).map (·.2) = vs := List.map_snd_zip (by rw [List.length_map]; omega)
    have nd2 : (xs.map fun p => (Sum.inr p.1 : Key)).Nodup := by
      have : (xs.map fun p => (Sum.inr p.1 : Key)) = (xs.map (·.1)).map fun s => (Sum.inr s : Key) := by rw [List.map_map]; rfl
      rw [this]
      exact List.Pairwise.map _ (fun a b hab z => hab (by cases z; rfl)) nd
    have nd3 : (xs.map fun p => [(Sum.inr p.1 : Key)]).Nodup := by
      have : (xs.map fun p => [(Sum.inr p.1 : Key)]) = (xs.map fun p => (Sum.inr p.1 : Key)).map fun s => [s] := by rw [List.map_map]; rfl
      rw [this]
      exact List.Pairwise.map _ (fun a b hab z => hab (by cases z; rfl)) nd2
    rw [mergeK_new (by rw [List.nil_append, e1]; exact nd2), List.nil_append]
    have pB : p ∉ B := fun z => by have := hB p z; rw [upd_same] at this; cases this
    have fp : F2 p = none := by rw [g.n p (by rw [upd_same]; simp) (nt_of upd_same)]; exact R.ex.free hp
    refine k _ hms _ F2 _ ((g0.trans g).side hp fp) ⟨p :: B, .td upd_same fp ⟨nd3, _, rfl, ?_, e2.symm⟩ pB (t.keep (Same.refl _) (fun a z => upd_ne fun y => pB (y ▸ z)) fun a z => (t.mem a z).2), fun a z => ?_⟩
    · rw [show (fun p : Key × V => [p.1]) = (fun a : Key => [a]) ∘ (fun p : Key × V => p.1) from rfl, ← List.map_map, e1, List.map_map]
      rfl
    · rcases List.mem_cons.mp z with z | z
      · rw [z]; exact hp
      · have := hB a z
        by_cases e : a = p
        · rw [e]; exact hp
        · rw [upd_ne e] at this; exact this
end
/-! ### comprehensions over own lists: nothing is changed meanwhile -/
def IsWalkG (T : Tb) (F H : Hp) (J : It) (ds : List D) : Prop := ∃ Gd Y, Walk J ds.length Gd Y ∧ (∀ F' H', Go F H F' H' → Gd H') ∧
  ∀ i H x H', i < ds.length → Gd H → Y i H x H' → H' = H ∧ ∃ d, ds[i]? = some d ∧ ∀ F', Same F F' → Same F' H → Rep T F' x d
def rdIG (T : Tb) (a : AI) : TI := fun σ H R => ∃ G F δ P, RepS T G F H σ δ ∧ a δ P ∧ ∀ ds, P ds → ∀ J F1 H1, Go F H F1 H1 → IsWalkG T F1 H1 J ds → R J H1
/-- a list, own or not -/
def iLstG (a : AE) : AI := fun δ Q => a δ fun w => match argW w with
  | .cl (.lst ds) => Q ds
  | .cl (.scr ns) => Q (ns.map .int)
  | .bw (.fl ds) => Q ds
  | .ow (.fl ds) => Q ds
  | _ => False
section
variable {T : Tb} {X : Cx} {tg e : Expr} {x : AE} {G : Gx} {F H : Hp} {σ : L2.St} {δ : List AV} {vs ks : List Nat}
theorem i_toG {a : AI} {it : Expr} (h : PI X tg it (rdI T a)) : PI X tg it (rdIG T a) := h.mono fun σ H Q h => by
  obtain ⟨G, F, δ, P, R, h, k⟩ := h
  refine ⟨G, F, δ, _, R, h, fun ds hd J F1 H1 g W => ?_⟩
  obtain ⟨Gd, Y, w, st, yy⟩ := W
  exact k ds hd J F1 H1 g ⟨Gd, Y, w, fun F' H' g' => st F' H' σ δ g'.f ((R.go g).go g'), yy⟩
theorem walk_flG {a : Addr} {vs : List V} {ds : List D} (r : Reps T F vs ds) (hs : ∀ F' H', Go F H F' H' → SqL T.K H' a vs) : IsWalkG T F H (Itl T.K a) ds := by
  have w := walk_list (K := T.K) (a := a) (xs := vs)
  rw [r.length] at w
  refine ⟨_, _, w, hs, fun i H x H' hi g y => ⟨y.1, ?_⟩⟩
  obtain ⟨d, hd, rd⟩ := r.get y.2
  exact ⟨d, hd, fun F' s _ => rd.mono s⟩
theorem i_lstG (hTK : T.K = X.K) (he : PE X e (rdE T x)) : PI X tg e (rdIG T (iLstG x)) := (pi_list he).mono fun σ H Q h => by
  obtain ⟨G, F, δ, P, R, h, k⟩ := h
  refine ⟨G, F, δ, _, R, h, fun w hw v F1 H1 g r => ?_⟩
  obtain ⟨F2, g2, _, _, r2, _⟩ := RepW.arg g r
  rw [← hTK]
  split at hw
  · rename_i ds hd
    rw [hd] at r2
    obtain ⟨a, vs, rfl, ha, rr⟩ := rep_lst r2
    exact ⟨a, rfl, ⟨vs, SqL.of (g2.ex _ _ ha)⟩, k _ hw _ F2 H1 g2 (walk_flG rr fun F' H' g' => SqL.of (g'.ex _ _ (g'.f _ _ ha)))⟩
  · rename_i ns hd
    rw [hd] at r2
    cases r2 with
    | scr q => exact ⟨_, rfl, ⟨_, Same.seq g2.ex q⟩, k _ hw _ F2 H1 g2 (walk_flG (reps_of_ints _) fun F' H' g' => Same.seq g'.ex (Same.seq g'.f q))⟩
  · rename_i ds hd
    rw [hd] at r2
    obtain ⟨A, o, hA⟩ := r2
    obtain ⟨a, vs, rfl, rfl, q, _, rr⟩ := own_fl o
    exact ⟨a, rfl, ⟨vs, SqL.of q⟩, k _ hw _ F2 H1 g2 (walk_flG rr fun F' H' g' => SqL.of (g'.h _ _ q))⟩
  · rename_i ds hd
    rw [hd] at r2
    obtain ⟨A, o⟩ := r2
    obtain ⟨a, vs, rfl, rfl, q, _, rr⟩ := own_fl o
    exact ⟨a, rfl, ⟨vs, SqL.of q⟩, k _ hw _ F2 H1 g2 (walk_flG rr fun F' H' g' => SqL.of (g'.h _ _ q))⟩
  · exact hw.elim
theorem rd_lcG {ai : AI} {ag : AG} {t : AT} {e : AE} (hk : ∀ i ∈ ks, i ∈ vs) {Q : VK} (h : rdE T (aLc ai ag t e vs) σ H Q) : tLc (rdIG T ai) (rdG T ks ag) (rdT T t) (rdE T e) vs σ H Q := by
  obtain ⟨G, F, δ, P, R, h, k⟩ := h
  refine ⟨G, F, δ, _, R, h, fun ds hd J F1 H1 g W => fun DD hD => ?_⟩
  obtain ⟨Gd, Y, w, stb, yy⟩ := W
  have R1 := R.go g
  have hD0 : H DD = none := g.h.free hD
  have Rw := R1.wipe vs
  have next : ∀ {F' H' : Hp} {acc : List D} {accV : List V} {y : D} {v : V} {i : Nat}, Go F1 H1 F' H' → F' DD = none → H' DD = some (.lst accV) → Reps T F' accV acc → Rep T F' v y → lcGo ag t e (wipeA δ vs) (ds.drop (i + 1)) (acc ++ [y]) P →
      ∃ F2 acc accV2, Go F1 H1 F2 (upd H' DD (.lst (accV ++ [v]))) ∧ F2 DD = none ∧ (upd H' DD (.lst (accV ++ [v]))) DD = some (.lst accV2) ∧ Reps T F2 accV2 acc ∧ lcGo ag t e (wipeA δ vs) (ds.drop (i + 1)) acc P :=
    fun {F' H' acc accV y v i} g1 f1 h1 r1 ry q => ⟨F', acc ++ [y], accV ++ [v], g1.side hD f1, f1, upd_same, r1.snoc ry, q⟩
  refine lc_it w (fun i H' => ∃ F' acc accV, Go F1 H1 F' H' ∧ F' DD = none ∧ H' DD = some (.lst accV) ∧ Reps T F' accV acc ∧ lcGo ag t e (wipeA δ vs) (ds.drop i) acc P) ⟨F1, [], [], (Go.refl g.ex).lay hD, g.ex.free hD, upd_same, .nil, hd⟩
    (fun i H' _ ⟨F', _, _, g1, _⟩ => stb F' H' g1) ?_ ?_
  · rintro i x H' H2 hi ⟨F', acc, accV, g1, f1, h1, r1, hq⟩ hy
    have R' := Rw.go g1
    obtain ⟨rfl, d, hd, rd⟩ := yy i H' x H2 hi (stb F' H' g1) hy
    have e1 : ds.drop i = d :: ds.drop (i + 1) := by
      obtain ⟨hl, he⟩ := List.getElem?_eq_some_iff.mp hd
      rw [List.drop_eq_getElem_cons hl, he]
    rw [e1] at hq
    unfold lcGo at hq
    refine ⟨G, F', _, _, d, R', rd F' g1.f g1.ex, hq, fun δ2 q σ2 kp R2 => ⟨wipe_keep hk kp, ?_⟩⟩
    refine ⟨G, F', δ2, _, R2, q, fun b hb F3 H3 g3 => ?_⟩
    have f3 : F3 DD = none := (g3.n DD (by rw [h1]; simp) (nt_of h1)).trans f1
    have h3 : H3 DD = some (.lst accV) := g3.h _ _ h1
    cases b with
    | true =>
      rw [if_pos rfl] at hb
      refine iteT ?_
      refine ⟨G, F3, δ2, _, R2.go g3, hb, fun w hw v F4 H4 g4 r4 => ?_⟩
      obtain ⟨F5, g5, _, s5, r5, n5⟩ := RepW.arg g4 r4
      split at hw
      · rename_i y hy
        rw [hy] at r5
        have h5 : H4 DD = some (.lst accV) := g4.h _ _ h3
        have f5 : F5 DD = none := (g5.n DD (by rw [h3]; simp) (nt_of h3)).trans f3
        exact ⟨accV, h5, by rw [r1.length]; exact dSz_lt hw.1, next (g1.trans (g3.trans g5)) f5 h5 (r1.mono (g3.f.trans g5.f)) r5 hw.2⟩
      · exact hw.elim
    | false =>
      rw [if_neg Bool.false_ne_true] at hb
      refine iteF ?_
      exact ⟨F3, acc, accV, g1.trans g3, f3, h3, r1.mono g3.f, hb⟩
  · rintro H' ⟨F', acc, accV, g1, f1, h1, r1, hq⟩
    rw [List.drop_length] at hq
    unfold lcGo at hq
    exact k _ hq _ F' H' (g.trans g1) ⟨[DD], .fl h1 f1 r1, fun a q => by rw [List.mem_singleton.mp q]; exact hD0⟩
theorem e_lcG {elt tg iter : Expr} {ifs : List Expr} {scope : Scope} {own : List (Str × Nat)} {pos : Pos} {ai : AI} {ag : AG} {t : AT} {e : AE} (hc : X.calm = true) (hN : X.N.Nodup) (hi : PI X tg iter (rdIG T ai)) (ok : BlkOk X.N X.env.scope scope own) (hk : ∀ i ∈ ks, i ∈ own.map (·.2))
    (hg : ∀ (s : Shared) (H : Hp) (C : Addr) (cl : List (Str × Addr)) (fp : List Addr), PG (X.blk s H scope (compEnvC scope cl C X.env) fp) tg (rdG T ks ag)) (ht : ∀ (s : Shared) (H : Hp) (C : Addr) (cl : List (Str × Addr)) (fp : List Addr), PTs (X.blk s H scope (compEnvC scope cl C X.env) fp) ifs (rdT T t))
    (he : ∀ (s : Shared) (H : Hp) (C : Addr) (cl : List (Str × Addr)) (fp : List Addr), PE (X.blk s H scope (compEnvC scope cl C X.env) fp) elt (rdE T e)) (hs : ∀ x, foldedSetIterable iter X.env x = pure x := by intro _; rfl) :
    PE X (.ListComp elt [⟨tg, iter, ifs, 0⟩] scope pos) (rdE T (aLc ai ag t e (own.map (·.2)))) := (pe_lc hc hN hi ok hg ht he hs).mono fun _ _ _ h => rd_lcG hk h
theorem s_setLcG {i : Nat} {y : Str} {py : Pos} {elt tg iter : Expr} {ifs : List Expr} {scope : Scope} {own : List (Str × Nat)} {pos spos : Pos} {ai : AI} {ag : AG} {t : AT} {e : AE} (hc : X.calm = true) (hN : X.N.Nodup) (hy : X.N[i]? = some y) (hyl : X.env.scope.names.lookup y = some .local)
    (hsw : swapsWith (.ListComp elt [⟨tg, iter, ifs, 0⟩] scope pos) (some (.Name y py)) spos.line X.env = pure true) (hi : PI X tg iter (rdIG T ai)) (ok : BlkOk X.N X.env.scope scope own) (hk : ∀ i ∈ ks, i ∈ own.map (·.2))
    (hg : ∀ (s : Shared) (H : Hp) (C : Addr) (cl : List (Str × Addr)) (fp : List Addr), PG (X.blk s H scope (compEnvC scope cl C X.env) fp) tg (rdG T ks ag)) (ht : ∀ (s : Shared) (H : Hp) (C : Addr) (cl : List (Str × Addr)) (fp : List Addr), PTs (X.blk s H scope (compEnvC scope cl C X.env) fp) ifs (rdT T t))
    (he : ∀ (s : Shared) (H : Hp) (C : Addr) (cl : List (Str × Addr)) (fp : List Addr), PE (X.blk s H scope (compEnvC scope cl C X.env) fp) elt (rdE T e)) (hs : ∀ x, foldedSetIterable iter X.env x = pure x := by intro _; rfl) :
    PS X (.Assign [.Name y py] (.ListComp elt [⟨tg, iter, ifs, 0⟩] scope pos) spos) (rdS T (aSet i (aLc ai ag t e (own.map (·.2))))) := (ps_setLc hc hN hy hyl hsw hi ok hg ht he hs).mono fun D σ H h => by
  obtain ⟨G, F, δ, E, R, h, k⟩ := h
  refine rd_lcG hk ⟨G, F, δ, _, R, h, fun w hw v F1 H1 g r => ?_⟩
  split at hw
  · rename_i a ha
    exact k.nx _ hw F1 H1 _ g.f (R.store g r ha)
  · exact hw.elim
theorem s_setCLcG {i : Nat} {y : Str} {py : Pos} {elt tg iter : Expr} {ifs : List Expr} {scope : Scope} {own : List (Str × Nat)} {pos spos : Pos} {ai : AI} {ag : AG} {t : AT} {e : AE} (hc : X.calm = true) (hN : X.N.Nodup) (hy : X.N[i]? = some y) (hyl : X.env.scope.names.lookup y = some .local)
    (hsw : swapsWith (.ListComp elt [⟨tg, iter, ifs, 0⟩] scope pos) (some (.Name y py)) spos.line X.env = pure true) (hi : PI X tg iter (rdIG T ai)) (ok : BlkOk X.N X.env.scope scope own) (hk : ∀ i ∈ ks, i ∈ own.map (·.2))
    (hg : ∀ (s : Shared) (H : Hp) (C : Addr) (cl : List (Str × Addr)) (fp : List Addr), PG (X.blk s H scope (compEnvC scope cl C X.env) fp) tg (rdG T ks ag)) (ht : ∀ (s : Shared) (H : Hp) (C : Addr) (cl : List (Str × Addr)) (fp : List Addr), PTs (X.blk s H scope (compEnvC scope cl C X.env) fp) ifs (rdT T t))
    (he : ∀ (s : Shared) (H : Hp) (C : Addr) (cl : List (Str × Addr)) (fp : List Addr), PE (X.blk s H scope (compEnvC scope cl C X.env) fp) elt (rdE T e)) (hs : ∀ x, foldedSetIterable iter X.env x = pure x := by intro _; rfl) :
    PS X (.Assign [.Name y py] (.ListComp elt [⟨tg, iter, ifs, 0⟩] scope pos) spos) (rdS T (aSetC i (aLc ai ag t e (own.map (·.2))))) := (ps_setLc hc hN hy hyl hsw hi ok hg ht he hs).mono fun D σ H h => by
  obtain ⟨G, F, δ, E, R, h, k⟩ := h
  refine rd_lcG hk ⟨G, F, δ, _, R, h, fun w hw v F1 H1 g r => ?_⟩
  split at hw
  · rename_i d hd
    obtain ⟨F2, g2, r2⟩ := clW_rep g r hd
    exact k.nx _ hw F2 H1 _ g2.f ((R.go g2).put (a := .im d) ⟨v, rfl, r2⟩ fun _ _ e => nomatch e)
  · exact hw.elim
end
/-! ### methods of own objects, with an answer -/
def xMut (ty : String) (pl : AP) (f : FM) (es : AA) : AX := fun δ Q => pl δ fun i c k => tyM k = ty ∧ es δ fun ws => f k ws fun k' d => Q (.cl d) (setP δ i (c k'))
section
variable {T : Tb} {X : Cx} {e : Expr} {pl : AP} {xs : AA} {K : PySem.W.Frag} {Ty : String} {r : V → List V → Hp → VK → Prop} {fm : FM}
theorem x_mut (hf : MutV T r fm) (hTK : T.K = K) (h : PE X e (tBM K Ty r (rdP T pl) (rdA T xs))) (hT : Ty ≠ "" := by decide) : PE X e (rdX T (xMut Ty pl fm xs)) := h.mono fun σ H Q h => by
  obtain ⟨G, F, δ, P, R, h, k⟩ := h
  refine ⟨G, F, δ, _, R, h, fun i c kk hw F1 H1 g l m v A u B e1 e2 o S => ?_⟩
  obtain ⟨ht, hw⟩ := hw
  refine ⟨ty_own S.ow ht hT, G, F1, δ, _, R.go g, hw, fun ws hw vs F2 H2 g2 ra => ?_⟩
  have S2 := S.go g2
  have g12 := g.trans g2
  refine hf G F2 H2 u kk B vs ws _ _ g2.ex S2.ow ra hw fun k' d hP z H' B' ch o' hB' rz => ?_
  exact k _ _ hP z F2 H' g12.f (R.plc g12 e1 e2 (o.go g2) S2 ch.ex (Same.refl _) (fun _ _ _ _ => rfl) ch.fr ch.th o' fun a q => .inl (hB' a q)) rz fun _ _ _ _ _ _ _ e => nomatch e
theorem x_mut0 (hf : MutV T r fm) (h : PE X e (tBM0 K Ty r (rdP T pl))) (hT : Ty ≠ "" := by decide) : PE X e (rdX T (xMut Ty pl fm aNil)) := h.mono fun σ H Q h => by
  obtain ⟨G, F, δ, P, R, h, k⟩ := h
  refine ⟨G, F, δ, _, R, h, fun i c kk hw F1 H1 g l m v A u B e1 e2 o S => ?_⟩
  obtain ⟨ht, hw⟩ := hw
  refine ⟨ty_own S.ow ht hT, ?_⟩
  refine hf G F1 H1 u kk B [] [] _ _ g.ex S.ow .nil hw fun k' d hP z H' B' ch o' hB' rz => ?_
  exact k _ _ hP z F1 H' g.f (R.plc g e1 e2 o S ch.ex (Same.refl _) (fun _ _ _ _ => rfl) ch.fr ch.th o' fun a q => .inl (hB' a q)) rz fun _ _ _ _ _ _ _ e => nomatch e
end
end Vl
/-! xs.remove(i); small helps for plain laws. -/
namespace Vl
open PySem PySem.Spec PyProof.Rows L2
def mRemove : FM := fun m ws P => match m, ws with
  | .fl ds, [.cl (.int k)] => ∃ ns : List Int, ds = ns.map .int ∧ k ∈ ns ∧ P (.fl ((ns.erase k).map .int)) .non
  | _, _ => False
theorem erase_at : ∀ (ns : List Int) (k : Int), k ∈ ns → ∃ j, ns[j]? = some k ∧ (∀ m : Nat, m < j → ns[m]? ≠ some k) ∧ ns.eraseIdx j = ns.erase k
  | [], k, h => nomatch h
  | a :: r, k, h => by
    by_cases e : a = k
    · subst e
      exact ⟨0, rfl, fun m hm => by omega, by simp⟩
    · have h2 : k ∈ r := by
        rcases List.mem_cons.mp h with z | z
        · exact absurd z.symm e
        · exact z
      obtain ⟨j, h3, h4, h5⟩ := erase_at r k h2
      refine ⟨j + 1, by simpa using h3, fun m hm => ?_, ?_⟩
      · cases m with
        | zero => simpa using e
        | succ m => simpa using h4 m (by omega)
      · rw [List.eraseIdx_cons_succ, h5, List.erase_cons, if_neg (by simpa using e)]
theorem m_remove {T : Tb} : MutV T rRemI mRemove := by
  intro G F H v m A xs ws P Q sm ow ra h k
  unfold mRemove at h
  split at h
  · rename_i ds k0
    obtain ⟨p, vs, rfl, rfl, ho, hf, r⟩ := own_fl ow
    obtain ⟨ns, rfl, hk, h⟩ := h
    cases reps_ints r
    obtain ⟨j, h1, h2, h3⟩ := erase_at ns k0 hk
    cases ra with
    | cons r2 t =>
      cases t
      refine ⟨p, ns, k0, j, rfl, by rw [rep_int r2], ho, h1, h2, ?_⟩
      rw [h3]
      exact k _ _ h _ _ _ (chg_upd sm List.mem_cons_self hf) (.fl upd_same hf (reps_of_ints _)) (fun _ q => q) .non
  · exact h.elim
theorem allW_nil : ([] : List W).all apW = true := rfl
theorem allW_cons (w : W) (ws : List W) : (w :: ws).all apW = (apW w && ws.all apW) := List.all_cons
theorem ite_no {c a b : Prop} [Decidable c] (h : ¬ c) (hb : b) : if c then a else b := by rw [if_neg h]; exact hb
theorem ite_yes {c a b : Prop} [Decidable c] (h : c) (ha : a) : if c then a else b := by rw [if_pos h]; exact ha
end Vl
set_option maxHeartbeats 4000000
/-! sorted of tuples of ints, of a dict's keys; min, max of a dict's keys. -/
namespace SrtL
open PySem PyProof.Rows SrtO
section
variable {prog : Program} {w : World} {A : Around} {E : Value → Shared → Prop} {s : Shared} {Q : Bool → Shared → Prop}
theorem lexI {b : Bool} {xs ys : List Value} {ns ms : List Int} (i : Nat) (hx : IntsAre xs ns) (hy : IntsAre ys ms) (hl : ns.length = ms.length)
    (h : Q (HT.lexLt ns ms) s) : PySem.W.KatLex prog w A b false Q (xs.zip ys) i s := by
  induction hx generalizing ys ms i with
  | nil =>
    cases hy with
    | nil => rw [HT.lexLt_nil_nil] at h; exact PySem.W.kat_nil h
    | cons q u hy => simp at hl
  | @cons p t xs ns hx ih =>
    cases hy with
    | nil => simp at hl
    | @cons q u ys ms hy =>
      have hl' : ns.length = ms.length := by simpa using hl
      show PySem.W.KatLex prog w A b false Q ((Value.int p t, Value.int q u) :: xs.zip ys) i s
      rw [HT.lexLt_cons] at h
      refine PySem.W.kat_cons (wpAny_eqBool_int ?_)
      by_cases e : p = q
      · subst e
        rw [beq_self_eq_true]
        rw [if_pos rfl] at h
        exact PySem.W.kat_yes (ih (i + 1) hy hl' h)
      · rw [show (p == q) = false from beq_eq_false_iff_ne.mpr e]
        rw [if_neg e] at h
        exact PySem.W.kat_no (TS.oneLt_ints _ h)
/-- tuples of d ints -/
def TupsD (h : Heap) (d : Nat) (k : Value → List Int) (vs : List Value) : Prop := ∀ v ∈ vs, TS.TupInts h v (k v) ∧ (k v).length = d
theorem TupsD.keeps {h h' : Heap} {d : Nat} {k : Value → List Int} {vs : List Value} (x : TupsD h d k vs) (kp : ∀ b o, h.get? b = some o → o.cls = .type "tuple" → h'.get? b = some o) : TupsD h' d k vs := fun v hv =>
  ⟨(x v hv).1.keeps kp, (x v hv).2⟩
theorem firsts {h : Heap} {d : Nat} {k : Value → List Int} (hd : 1 ≤ d) : ∀ vs : List Value, TupsD h d k vs → ∃ fs, PySem.W.KatTups h vs fs ∧ fs.length = vs.length ∧ ∀ f, f ∈ fs → ∃ n t, f = Value.int n t
  | [], _ => ⟨[], PySem.W.KatTups.nil, rfl, fun f hf => by simp at hf⟩
  | v :: vs, x => by
    obtain ⟨fs, kk, hl, hi⟩ := firsts hd vs fun u hu => x u (List.mem_cons_of_mem _ hu)
    obtain ⟨⟨a, xs, rfl, ⟨o, ho, hc, n, hdt⟩, i⟩, hn⟩ := x v List.mem_cons_self
    obtain ⟨y, ys, e⟩ : ∃ y ys, xs.toList = y :: ys := by
      cases q : xs.toList with
      | nil =>
        rw [q] at i
        have l := i.length
        rw [List.length_nil, hn] at l
        omega
      | cons y ys => exact ⟨y, ys, rfl⟩
    obtain ⟨m, t, hy⟩ := i.all y (by rw [e]; exact List.mem_cons_self)
    refine ⟨y :: fs, PySem.W.KatTups.cons ho hc hdt ?_ kk, by simp [hl], ?_⟩
    · have z := congrArg (fun l : List Value => l[0]?) e
      simpa using z
    · intro f hf
      rcases List.mem_cons.mp hf with rfl | hf
      · exact ⟨m, t, hy⟩
      · exact hi f hf
abbrev lexK {α : Type} (k : α → List Int) (v u : α) : Bool := HT.lexLt (k v) (k u)
theorem tups_sortable {a : Addr} {vs : List Value} {d : Nat} {k : Value → List Int} (hd : 1 ≤ d) (h0 : 0 < vs.length) (hp : TupsD s.heap d k vs) (ha : ∀ o, s.heap.get? a = some o → o.cls ≠ .type "tuple") : SortableO prog w A s a vs (lexK k) := by
  intro h' keep
  have hp' : TupsD h' d k vs := hp.keeps fun b o e c => keep b o (fun z => by subst z; exact ha o e c) e
  obtain ⟨fs, h1, h2, h3⟩ := firsts hd vs hp'
  refine ⟨tuples' true, fun Q E hq => ?_, ?_⟩
  · refine PySem.W.kat_kind (T := .type "int") h1 (by omega) (fun f hm => ?_) (by rfl) ?_
    · obtain ⟨x, t, rfl⟩ := h3 f hm
      exact PySem.W.Looks.now
    · have e : (Value.type "int" != Value.type "tuple") = true := by first | decide +kernel | rfl | decide
      rw [e]
      exact hq
  · intro p q hm hm'
    obtain ⟨⟨a1, xs, e1, ⟨o, ho, hc, n, hdt⟩, i⟩, l1⟩ := hp' _ hm
    obtain ⟨⟨a2, ys, e2, ⟨o', ho', hc', n', hdt'⟩, i'⟩, l2⟩ := hp' _ hm'
    have goal : ∀ (u v : Value), u = .ref a1 → v = .ref a2 → wpAny (model prog w) A (keyLt' (tuples' true) u v) (fun r s' => s' = { s with heap := h' } ∧ r = HT.lexLt (k p.1) (k q.1)) (fun _ _ => False) { s with heap := h' } := by
      rintro u v rfl rfl
      refine PySem.W.kat_lt (s := { s with heap := h' }) ho hdt ho' hdt' ?_
      have sz : decide (xs.size < ys.size) = false := by
        have z1 := i.length
        have z2 := i'.length
        rw [Array.length_toList] at z1 z2
        exact decide_eq_false (by omega)
      rw [sz]
      exact lexI 0 i i' (by omega) ⟨rfl, rfl⟩
    exact goal _ _ e1 e2
theorem sorted_tups {l : Addr} {vs : List Value} {d : Nat} {k : Value → List Int} {Q : Value → Shared → Prop} (hd : 1 ≤ d) (hl : s.heap.IsList l vs.toArray) (hz : vs.length ≤ sizeLine) (hp : TupsD s.heap d k vs)
    (h : ∀ (h' : Heap) (d : Addr) (out : List Value), Srtd (lexK k) out → Stb (lexK k) out vs → (∀ b o, s.heap.get? b = some o → h'.get? b = some o) → s.heap.objs.size ≤ d → (∃ n, h'.get? d = some (seqObj "list" out.toArray n)) → Q (.ref d) { s with heap := h' }) :
    wpAny (model prog w) A (call (.builtin "sorted") [.ref l]) Q E s := by
  refine sorted_ord (NtL.swo_lexL k) hl hz (fun h2 h₁ a ha kk => ?_) fun out hs hb => ?_
  · refine tups_sortable (s := { s with heap := h₁ }) hd (by omega) (hp.keeps fun b o e _ => (kk b o e).2) fun o e => ?_
    have e' : some o = some (seqObj "list" vs.toArray 0) := e.symm.trans ha
    cases e'
    intro c
    exact absurd (Value.type.inj c) (by decide)
  · exact h _ _ out hs hb (fun b o e => sortedAll_old e) (Nat.le_succ _) (sortedAll_at s.heap vs out.toArray)
end
end SrtL
namespace L2
open PySem PySem.Spec PyProof.Rows
/-- sorted(xs), xs a list of tuples of d ints (k says which): a new list, sorted -/
def rSortedL (K : PySem.W.Frag) : List V → Hp → VK → Prop := fun vs H Q => ∃ (a : Addr) (xs : List V) (d : Nat) (k : V → List Int), 1 ≤ d ∧ vs = [V.ref a] ∧ SqL K H a xs ∧ (∀ x ∈ xs, ∃ t, x = V.ref t ∧ H t = some (.tup ((k x).map V.int)) ∧ (k x).length = d) ∧
  ∀ ys p, SrtO.Srtd (SrtL.lexK k) ys → ys.Perm xs → ys.length ≤ sizeLine → H p = none → Q (.ref p) (upd H p (.lst ys))
theorem tupInts_of {X : Cx} {pins : List (Addr × Obj)} {σ : St} {H : Hp} {s : Shared} (I : Inv X pins σ H s) {t : Addr} {ns : List Int} (ht : H t = some (.tup (ns.map V.int))) : TS.TupInts s.heap (.ref t) ns := by
  obtain ⟨_, its2, r2, o, ho, hc, n, hd⟩ := I.hok _ _ ht
  exact ⟨t, its2.toArray, rfl, ⟨o, ho, hc, n, hd⟩, r2.ints⟩
section
variable {X : Cx}
theorem cr_sortedL : CallR X (.builtin "sorted") (rSortedL X.K) := by
  intro pins s σ H vs us Q I r h
  obtain ⟨a, xs, d, k, hd, rfl, hs, hx, q⟩ := h
  obtain ⟨its, rv, hl, hz⟩ := I.list hs
  obtain ⟨u, rfl, ru⟩ := vals1 r
  obtain rfl : u = Value.ref a := ru
  obtain ⟨e1, e2⟩ := refs_back rv fun x m => by
    obtain ⟨t, e, _⟩ := hx x m
    exact ⟨t, e⟩
  refine SrtL.sorted_tups (d := d) (k := fun u => k (backV u)) hd hl.isList (by rw [← rv.length]; exact hz) (fun v hv => ?_) fun h' d out h1 h2 kp hd hn => ?_
  · obtain ⟨t, rfl⟩ := e2 v hv
    have hm : V.ref t ∈ xs := by rw [e1]; exact List.mem_map.mpr ⟨_, hv, rfl⟩
    obtain ⟨t', e, ht, hlen⟩ := hx _ hm
    cases e
    exact ⟨tupInts_of I ht, hlen⟩
  · have h3 : ∀ u ∈ out, ∃ a, u = Value.ref a := fun u hu => e2 u (h2.perm.mem_iff.mp hu)
    obtain ⟨n, hn⟩ := hn
    have hp : (out.map backV).Perm xs := by
      rw [e1]
      exact h2.perm.map backV
    have hlen : (out.map backV).length ≤ sizeLine := by rw [hp.length_eq]; exact hz
    exact ⟨.ref d, upd H d (.lst (out.map backV)), I.laid (t' := s.toks) kp hd ⟨hlen, out, n, vals_back h3, hn⟩, rfl, q _ d (List.pairwise_map.mpr h1) hp hlen (I.hok.fresh hd)⟩
end
end L2
namespace Vl
open PySem PySem.Spec PyProof.Rows L2
def tupI (ns : List Int) : D := .tup (ns.map .int)
def intV : V → Int
  | .int i => i
  | _ => 0
/-- the ints of a tuple, read off a heap -/
def kF (F : Hp) : V → List Int
  | .ref t => match F t with
    | some (.tup vs) => vs.map intV
    | _ => []
  | _ => []
theorem intV_map : ∀ ns : List Int, (ns.map V.int).map intV = ns
  | [] => rfl
  | n :: ns => by rw [List.map_cons, List.map_cons, intV_map ns]; rfl
theorem kF_of {F : Hp} {t : Addr} {ns : List Int} (h : F t = some (.tup (ns.map V.int))) : kF F (.ref t) = ns := by
  simp only [kF, h]; exact intV_map ns
section
variable {T : Tb} {F : Hp}
theorem rep_tupI {v : V} {ns : List Int} (r : Rep T F v (tupI ns)) : ∃ t, v = .ref t ∧ F t = some (.tup (ns.map V.int)) := by
  cases r with
  | tup h r => rw [reps_ints r] at h; exact ⟨_, rfl, h⟩
theorem reps_kF : ∀ {vs : List V} {ks : List (List Int)}, Reps T F vs (ks.map tupI) → vs.map (kF F) = ks ∧ ∀ x ∈ vs, ∃ t, x = .ref t ∧ F t = some (.tup ((kF F x).map V.int)) ∧ kF F x ∈ ks
  | _, [], .nil => ⟨rfl, fun _ h => nomatch h⟩
  | _, k :: ks, .cons r t => by
    obtain ⟨h1, h2⟩ := reps_kF t
    obtain ⟨p, rfl, hp⟩ := rep_tupI r
    refine ⟨by rw [List.map_cons, h1, kF_of hp], fun x hx => ?_⟩
    rcases List.mem_cons.mp hx with rfl | hx
    · exact ⟨p, rfl, by rw [kF_of hp]; exact hp, by rw [kF_of hp]; exact List.mem_cons_self⟩
    · obtain ⟨t, e, a, b⟩ := h2 x hx
      exact ⟨t, e, a, List.mem_cons_of_mem _ b⟩
theorem reps_of_kF : ∀ {ys : List V}, (∀ x ∈ ys, ∃ t, x = .ref t ∧ F t = some (.tup ((kF F x).map V.int))) → Reps T F ys ((ys.map (kF F)).map tupI)
  | [], _ => .nil
  | y :: ys, h => by
    obtain ⟨t, e, ht⟩ := h y List.mem_cons_self
    refine .cons ?_ (reps_of_kF fun x hx => h x (List.mem_cons_of_mem _ hx))
    rw [e] at ht ⊢
    exact .tup ht (reps_of_ints _)
end
/-- sorted(xs), tuples of d ints -/
def fSortT : List W → (W → Prop) → Prop := one fun w Q => ∃ (d : Nat) (ks : List (List Int)), 1 ≤ d ∧ lstC w = some (ks.map tupI) ∧ (∀ k ∈ ks, k.length = d) ∧ ∀ ms : List (List Int), ms.Perm ks → ms.Pairwise (fun a b => HT.lexLt b a = false) → Q (.fr (.fl (ms.map tupI)))
theorem c_sortT {T : Tb} : CallV T (rSortedL T.K) fSortT := by
  intro G F H F' H' xs ws P Q g r h k
  obtain ⟨x, w, rfl, rfl, rx, h⟩ := one_inv h r
  obtain ⟨d, ks, hd, es, hl, q⟩ := h
  obtain ⟨p, vs, rfl, hs, rr⟩ := rx.lst g.ex es
  obtain ⟨e1, e2⟩ := reps_kF rr
  refine ⟨p, vs, d, kF F', hd, rfl, hs, fun x hx => ?_, fun ys l hy hp hz hl2 => ?_⟩
  · obtain ⟨t, e, a, b⟩ := e2 x hx
    exact ⟨t, e, g.ex _ _ a, hl _ b⟩
  · refine new_list g (reps_of_kF fun x hx => ?_) (q (ys.map (kF F')) (by rw [← e1]; exact hp.map _) (List.pairwise_map.mpr hy)) k hl2
    obtain ⟨t, e, a, _⟩ := e2 x (hp.mem_iff.mp hx)
    exact ⟨t, e, a⟩
end Vl
namespace L2
open PySem PySem.Spec PyProof.Rows Vl
/-- sorted(d), d a dict whose keys are tuples of n ints -/
def rSortedDT : List V → Hp → VK → Prop := fun vs H Q => ∃ (a : Addr) (kvs : List (List Key × V)) (n : Nat) (ks : List (List Int)), 1 ≤ n ∧ vs = [V.ref a] ∧ Rd H a (.dT kvs) ∧ kvs.map (·.1) = ks.map (fun k => k.map Sum.inl) ∧ (∀ k ∈ ks, k.length = n) ∧
  ∀ (ys : List V) (p : Addr), (∀ y ∈ ys, ∃ t, y = V.ref t ∧ H t = some (.tup ((kF H y).map V.int))) → (ys.map (kF H)).Perm ks → SrtO.Srtd (SrtL.lexK (kF H)) ys → ys.length ≤ sizeLine → H p = none → Q (.ref p) (upd H p (.lst ys))
section
variable {X : Cx}
theorem kt_keys {H : Hp} {kvs : List (List Key × V)} {xs : List (List Key × Addr × Value)} (r : KT H kvs xs) : ∀ {ks : List (List Int)}, kvs.map (·.1) = ks.map (fun k => k.map Sum.inl) →
    (xs.map fun x => V.ref x.2.1).map (kF H) = ks ∧ ∀ y ∈ xs.map (fun x => V.ref x.2.1), ∃ t, y = V.ref t ∧ H t = some (.tup ((kF H y).map V.int)) ∧ kF H y ∈ ks := by
  induction r with
  | nil => intro ks e; cases ks with
    | nil => exact ⟨rfl, fun _ h => nomatch h⟩
    | cons _ _ => cases e
  | cons h t ih =>
    intro ks e
    cases ks with
    | nil => cases e
    | cons k ks =>
      rw [List.map_cons, List.map_cons] at e
      injection e with e1 e2
      obtain ⟨q1, q2⟩ := ih e2
      have hb := h.2.1
      rw [e1, List.map_map] at hb
      have hb : H _ = some (.tup (k.map V.int)) := hb
      refine ⟨by rw [List.map_cons, List.map_cons, q1, kF_of hb], fun y hy => ?_⟩
      rw [List.map_cons] at hy
      rcases List.mem_cons.mp hy with rfl | hy
      · exact ⟨_, rfl, by rw [kF_of hb]; exact hb, by rw [kF_of hb]; exact List.mem_cons_self⟩
      · obtain ⟨t, e, a, b⟩ := q2 y hy
        exact ⟨t, e, a, List.mem_cons_of_mem _ b⟩
theorem cr_sortedDT (hcalm : X.calm = true) : CallR X (.builtin "sorted") rSortedDT := by
  intro pins s σ H vs us Q I r h
  obtain ⟨a, kvs, n, ks, hn, rfl, hd, hks, hln, q⟩ := h
  obtain ⟨u, rfl, rx⟩ := vals1 r
  cases rx
  obtain ⟨z, hs, xs, pr, o, es, ep, ho, hx, hdt, he, hnn⟩ := (show ObjOk X.prog X.w H s.heap a (.dT kvs) from hd.ok I.hok)
  have l1 : es.size = xs.length := size_of_entries he
  have l2 : kvs.length = xs.length := Paired.length pr
  obtain ⟨k1, k2⟩ := kt_keys pr hks
  refine Calls.call_function_entry PyProof.Rows.kind_sorted PyProof.Rows.plain_sorted PyProof.Rows.entry_sorted (PyProof.Rows.args_sorted1 _) ?_
  unfold Builtin.«sorted»
  refine wpAny_bind (m := checkCount "sorted" 1 1 _) (wpAny_pure ?_)
  refine wpAny_bind (PySem.W.kdu_collect (A := X.A.in1) (kdl_raw hs hx hdt) (I.ok.hd hcalm) ho (by omega) fun h' tk acc hk hacc => ?_)
  have ea : acc.toList = xs.map fun x => Value.ref x.2.1 := by
    have hl : acc.toList.length = xs.length := by rw [Array.length_toList, hacc.1]; exact l1
    apply List.ext_getElem?
    intro j
    rw [List.getElem?_map]
    cases hj : acc.toList[j]? with
    | none =>
      have h1 := List.getElem?_eq_none_iff.mp hj
      rw [List.getElem?_eq_none (by omega)]
      all_goals rfl
    | some v =>
      obtain ⟨en, hen, hv⟩ := hacc.2 j v (by rw [← Array.getElem?_toList]; exact hj)
      have qe := entry_at he j
      rw [hen] at qe
      cases hb : xs[j]? with
      | none =>
        rw [hb] at qe
        exact nomatch (show some en = none from qe)
      | some b =>
        rw [hb] at qe
        have e2 : en = entryOfKey (tupleKind (mixKind X.prog X.w)) b := Option.some.inj qe
        rw [hv, e2]
        all_goals rfl
  have I1 : Inv X pins σ H { s with heap := h', toks := tk } := I.kept hk
  have hz : acc.toList.length ≤ sizeLine := by rw [ea, List.length_map]; omega
  refine wpAny_bind (wpAny_newList ?_ hz)
  have hoL : (h'.push (seqObj "list" acc.toList.toArray 0)).get? h'.objs.size = some (seqObj "list" acc.toList.toArray 0) := Heap.get?_push_size _ rfl
  show wpAny _ _ _ _ _ { s with heap := h'.push (seqObj "list" acc.toList.toArray 0), toks := tk }
  have back : ∀ v ∈ acc.toList, ∃ t, v = Value.ref t ∧ V.ref t ∈ xs.map fun x => V.ref x.2.1 := fun v hv => by
    rw [ea] at hv
    obtain ⟨x, hx, rfl⟩ := List.mem_map.mp hv
    exact ⟨_, rfl, List.mem_map.mpr ⟨x, hx, rfl⟩⟩
  refine wpAny_bind (wpAny_holding (wpAny_call_entry PyProof.Rows.slot_list_sort ⟨_, hoL, rfl⟩ PyProof.Rows.entry_list_sort
    (SrtO.list_sort_ord (s := { s with heap := h'.push (seqObj "list" acc.toList.toArray 0), toks := tk }) (NtL.swo_lexL fun u => kF H (backV u)) hoL hz (fun h2 => SrtL.tups_sortable (d := n) hn (by omega) (fun v hv => ?_) fun o' e => ?_) fun out g1 g2 => ⟨_, rfl, ?_⟩) (PyProof.Rows.args_list_sort _)))
  · obtain ⟨t, rfl, ht⟩ := back v hv
    obtain ⟨t', e, hb, hm⟩ := k2 _ ht
    cases e
    exact ⟨(tupInts_of I1 hb).keeps fun b o e _ => Heap.get?_push_of_some _ e, hln _ hm⟩
  · have e' : some o' = some (seqObj "list" acc.toList.toArray 0) := e.symm.trans hoL
    cases e'
    intro c
    exact absurd (Value.type.inj c) (by decide)
  · obtain ⟨e', he'⟩ := PyProof.Rows.sortedHeap_at (vs := acc.toList) (out := out.toArray) hoL
    have hp : (out.map backV).Perm (xs.map fun x => V.ref x.2.1) := by
      have := g2.perm.map backV
      rw [ea, List.map_map] at this
      exact this
    have h3 : ∀ u ∈ out, ∃ a, u = Value.ref a := fun u hu => by
      obtain ⟨t, e, _⟩ := back u (g2.perm.mem_iff.mp hu)
      exact ⟨t, e⟩
    have hlen : (out.map backV).length ≤ sizeLine := by rw [hp.length_eq, List.length_map]; omega
    refine wpAny_pure ⟨_, rfl, .ref h'.objs.size, upd H h'.objs.size (.lst (out.map backV)), I1.laid (t' := tk) (fun b u e => ?_) (Nat.le_refl _)
      (show ObjOk X.prog X.w _ _ _ (.lst (out.map backV)) from ⟨hlen, out, e', vals_back h3, he'⟩), rfl, q _ _ (fun y hy => ?_) (by rw [← k1]; exact hp.map _) (List.pairwise_map.mpr g1) hlen (I1.hok.fresh (Nat.le_refl _))⟩
    · have hb : b < h'.objs.size := Heap.lt_size e
      rw [PyProof.Rows.sortedHeap_old (Nat.ne_of_lt hb) (by rw [size_push']; exact Nat.lt_succ_of_lt hb)]
      exact Heap.get?_push_of_some _ e
    · obtain ⟨t, e, hb, _⟩ := k2 y (hp.mem_iff.mp hy)
      exact ⟨t, e, hb⟩
end
end L2
namespace L2
open PySem PySem.Spec PyProof.Rows Vl
def rMinDK : List V → Hp → VK → Prop := fun vs H Q => ∃ (a : Addr) (kvs : List (Key × V)) (ns : List Int), vs = [V.ref a] ∧ Rd H a (.dK kvs) ∧ kvs.map (·.1) = ns.map Sum.inl ∧ 0 < ns.length ∧ ∀ m, m ∈ ns → (∀ y ∈ ns, m ≤ y) → Q (.int m) H
def rMaxDK : List V → Hp → VK → Prop := fun vs H Q => ∃ (a : Addr) (kvs : List (Key × V)) (ns : List Int), vs = [V.ref a] ∧ Rd H a (.dK kvs) ∧ kvs.map (·.1) = ns.map Sum.inl ∧ 0 < ns.length ∧ ∀ m, m ∈ ns → (∀ y ∈ ns, y ≤ m) → Q (.int m) H
section
variable {X : Cx} {pins : List (Addr × Obj)} {σ : St} {H : Hp} {s : Shared} {a : Addr} {kvs : List (Key × V)} {ns : List Int}
theorem key_ints {vs : List (Key × Value)} (h : vs.map (·.1) = ns.map Sum.inl) {i : Nat} {v : Value} (q : ∃ k x, vs[i]? = some (k, x) ∧ keyIs k v = true) : ∃ t, i < ns.length ∧ v = .int (ns.getD i 0) t := by
  obtain ⟨k, x, e1, e2⟩ := q
  have e3 : (vs.map (·.1))[i]? = some k := by rw [List.getElem?_map, e1]; rfl
  rw [h, List.getElem?_map] at e3
  cases e4 : ns[i]? with
  | none => rw [e4] at e3; cases e3
  | some y =>
    rw [e4] at e3
    have e5 : Sum.inl y = k := Option.some.inj e3
    subst e5
    rcases keyIs_shape (show keyIs (Sum.inl y) v = true from e2) with ⟨j, t, ek, ev⟩ | ⟨z, t, ek, ev⟩
    · cases ek
      exact ⟨t, (List.getElem?_eq_some_iff.mp e4).1, by rw [List.getD_eq_getElem?_getD, e4]; exact ev⟩
    · cases ek
theorem getD_all {P : Int → Prop} (h : ∀ j, j < ns.length → P (ns.getD j 0)) : ∀ y ∈ ns, P y := fun y hy => by
  obtain ⟨j, hj, rfl⟩ := List.getElem_of_mem hy
  have := h j hj
  rw [List.getD_eq_getElem?_getD, List.getElem?_eq_getElem hj] at this
  exact this
theorem getD_mem' {j : Nat} (hj : j < ns.length) : ns.getD j 0 ∈ ns := by
  rw [List.getD_eq_getElem?_getD, List.getElem?_eq_getElem hj]; exact List.getElem_mem hj
end
section
variable {X : Cx}
theorem cr_minDK (hc : X.calm = true) : CallR X (.builtin "min") rMinDK := by
  intro pins s σ H vs us Q I r h
  obtain ⟨a, kvs, ns, rfl, hd, hks, hne, q⟩ := h
  obtain ⟨u, rfl, rx⟩ := vals1 r
  cases rx
  obtain ⟨z, lo, ws, rel, dd⟩ := dk_rd I.hok hd
  obtain ⟨ep, hat⟩ := dd.dictAt
  have hkeys : ws.map (·.1) = ns.map Sum.inl := rel.keys.symm.trans hks
  have hl : ws.length = ns.length := by
    have e := congrArg List.length hkeys
    rw [List.length_map, List.length_map] at e
    exact e
  obtain ⟨oI, St, hit, W, st0⟩ := (PySem.W.kdl_dict (knd := mixKind X.prog X.w) (kvs := ws) (ep := ep) lo).iter X.A.in1 s (I.ok.hd hc) hat
  have W' : WalksS X.prog X.w X.A.in1 s.heap.objs.size [s.heap.objs.size, a] [s.heap.objs.size] (fun a b => b = a) ws.length _ _ := W.toS
  refine PySem.call_min_walkH (hit _ _ ⟨_, _, _, _, _, _, _, s.heap, (fun i j => decide (ns.getD i 0 < ns.getD j 0)), rfl, W', st0, fun b hb => ?_, by omega, fun b o e hb => ?_, fun b o e => Heap.get?_push_of_some _ e, ?_, fun v s' hP m => ?_⟩)
  · rw [Heap.size_push]
    rcases List.mem_cons.mp hb with rfl | hb
    · exact Nat.lt_succ_self _
    · rw [List.mem_singleton.mp hb]; exact Nat.lt_succ_of_lt hat.lt_size
  · rw [List.mem_singleton.mp hb] at e
    exact absurd (Heap.lt_size e) (Nat.lt_irrefl _)
  · intro i j vi vj s' Q' E' hk hi hj hq
    obtain ⟨t, _, rfl⟩ := key_ints hkeys hi
    obtain ⟨t', _, rfl⟩ := key_ints hkeys hj
    exact PyProof.Rows.lt_int hq
  · obtain ⟨h', tk, rfl, hk'⟩ := PySem.W.moved_old rfl rfl m
    obtain ⟨t, hi, rfl⟩ := key_ints hkeys hP
    obtain ⟨h1, h2⟩ := argBest_lt (fun i => ns.getD i 0) (ws.length - 1)
    exact ⟨.int _, H, I.kept hk', ⟨t, rfl⟩, q _ (getD_mem' hi) (getD_all fun j hj => h2 j (by omega))⟩
theorem cr_maxDK (hc : X.calm = true) : CallR X (.builtin "max") rMaxDK := by
  intro pins s σ H vs us Q I r h
  obtain ⟨a, kvs, ns, rfl, hd, hks, hne, q⟩ := h
  obtain ⟨u, rfl, rx⟩ := vals1 r
  cases rx
  obtain ⟨z, lo, ws, rel, dd⟩ := dk_rd I.hok hd
  obtain ⟨ep, hat⟩ := dd.dictAt
  have hkeys : ws.map (·.1) = ns.map Sum.inl := rel.keys.symm.trans hks
  have hl : ws.length = ns.length := by
    have e := congrArg List.length hkeys
    rw [List.length_map, List.length_map] at e
    exact e
  obtain ⟨oI, St, hit, W, st0⟩ := (PySem.W.kdl_dict (knd := mixKind X.prog X.w) (kvs := ws) (ep := ep) lo).iter X.A.in1 s (I.ok.hd hc) hat
  have W' : WalksS X.prog X.w X.A.in1 s.heap.objs.size [s.heap.objs.size, a] [s.heap.objs.size] (fun a b => b = a) ws.length _ _ := W.toS
  refine PySem.call_max_walkH (hit _ _ ⟨_, _, _, _, _, _, _, s.heap, (fun i j => decide (ns.getD i 0 > ns.getD j 0)), rfl, W', st0, fun b hb => ?_, by omega, fun b o e hb => ?_, fun b o e => Heap.get?_push_of_some _ e, ?_, fun v s' hP m => ?_⟩)
  · rw [Heap.size_push]
    rcases List.mem_cons.mp hb with rfl | hb
    · exact Nat.lt_succ_self _
    · rw [List.mem_singleton.mp hb]; exact Nat.lt_succ_of_lt hat.lt_size
  · rw [List.mem_singleton.mp hb] at e
    exact absurd (Heap.lt_size e) (Nat.lt_irrefl _)
  · intro i j vi vj s' Q' E' hk hi hj hq
    obtain ⟨t, _, rfl⟩ := key_ints hkeys hi
    obtain ⟨t', _, rfl⟩ := key_ints hkeys hj
    exact PyProof.Rows.gt_int hq
  · obtain ⟨h', tk, rfl, hk'⟩ := PySem.W.moved_old rfl rfl m
    obtain ⟨t, hi, rfl⟩ := key_ints hkeys hP
    obtain ⟨h1, h2⟩ := argBest_gt (fun i => ns.getD i 0) (ws.length - 1)
    exact ⟨.int _, H, I.kept hk', ⟨t, rfl⟩, q _ (getD_mem' hi) (getD_all fun j hj => h2 j (by omega))⟩
end
end L2
namespace Vl
open PySem PySem.Spec PyProof.Rows L2
def keyI (n : Int) : List Key := [Sum.inl n]
def keyIs' (ns : List Int) : List Key := ns.map Sum.inl
theorem keys_flat {kvs : List (Key × V)} {ns : List Int} (h : ns.map keyI = kvs.map fun p => [p.1]) : kvs.map (·.1) = ns.map Sum.inl := by
  have h2 : (kvs.map (·.1)).map (fun k : Key => [k]) = (ns.map Sum.inl).map (fun k : Key => [k]) := by
    rw [List.map_map, List.map_map]; exact h.symm
  exact (List.map_inj_right fun x y e => by injection e).mp h2
/-- min(d), max(d), d a dict whose keys are ints -/
def fMinD : List W → (W → Prop) → Prop := one fun w Q => ∃ (ns : List Int) (us : List W), kidsW w = some (false, ns.map keyI, us) ∧ 0 < ns.length ∧ ∀ m, m ∈ ns → (∀ y ∈ ns, m ≤ y) → Q (.cl (.int m))
def fMaxD : List W → (W → Prop) → Prop := one fun w Q => ∃ (ns : List Int) (us : List W), kidsW w = some (false, ns.map keyI, us) ∧ 0 < ns.length ∧ ∀ m, m ∈ ns → (∀ y ∈ ns, y ≤ m) → Q (.cl (.int m))
/-- sorted(d), d a dict whose keys are tuples of n ints -/
def fSortDT : List W → (W → Prop) → Prop := one fun w Q => ∃ (n : Nat) (ks : List (List Int)) (us : List W), 1 ≤ n ∧ kidsW w = some (true, ks.map keyIs', us) ∧ (∀ k ∈ ks, k.length = n) ∧ ∀ ms : List (List Int), ms.Perm ks → ms.Pairwise (fun a b => HT.lexLt b a = false) → Q (.fr (.fl (ms.map tupI)))
section
variable {T : Tb}
theorem c_minD : CallV T rMinDK fMinD := by
  intro G F H F' H' xs ws P Q g r h k
  obtain ⟨x, w, rfl, rfl, rx, h⟩ := one_inv h r
  obtain ⟨ns, us, hw, hne, q⟩ := h
  obtain ⟨p, ob, vs, rfl, hp, ⟨_, hd⟩, hl, _⟩ := rx.kids g.ex hw
  obtain ⟨kvs, rfl, e, rfl⟩ := hd
  exact ⟨p, kvs, ns, rfl, .inl hp, keys_flat e, hne, fun m h1 h2 => k _ (q m h1 h2) _ _ _ g (.int _)⟩
theorem c_maxD : CallV T rMaxDK fMaxD := by
  intro G F H F' H' xs ws P Q g r h k
  obtain ⟨x, w, rfl, rfl, rx, h⟩ := one_inv h r
  obtain ⟨ns, us, hw, hne, q⟩ := h
  obtain ⟨p, ob, vs, rfl, hp, ⟨_, hd⟩, hl, _⟩ := rx.kids g.ex hw
  obtain ⟨kvs, rfl, e, rfl⟩ := hd
  exact ⟨p, kvs, ns, rfl, .inl hp, keys_flat e, hne, fun m h1 h2 => k _ (q m h1 h2) _ _ _ g (.int _)⟩
theorem c_sortDT : CallV T rSortedDT fSortDT := by
  intro G F H F' H' xs ws P Q g r h k
  obtain ⟨x, w, rfl, rfl, rx, h⟩ := one_inv h r
  obtain ⟨n, ks, us, hn, hw, hl, q⟩ := h
  obtain ⟨p, ob, vs, rfl, hp, ⟨_, hd⟩, _, _⟩ := rx.kids g.ex hw
  obtain ⟨kvs, rfl, e, rfl⟩ := hd
  refine ⟨p, kvs, n, ks, hn, rfl, .inl hp, e.symm, hl, fun ys l hy hpm hs hz hl2 => ?_⟩
  -- the keys become clean
  let A : List Addr := ys.map fun y => match y with | .ref t => t | _ => l
  have inA : ∀ y ∈ ys, ∀ t, y = V.ref t → t ∈ A := fun y hy' t e => List.mem_map.mpr ⟨y, hy', by rw [e]⟩
  have tupA : ∀ a ∈ A, ∃ vs, H' a = some (.tup vs) := fun a ha => by
    obtain ⟨y, hy', e⟩ := List.mem_map.mp ha
    obtain ⟨t, e2, ht⟩ := hy y hy'
    rw [e2] at e
    have e : t = a := e
    exact ⟨_, e ▸ ht⟩
  let F2 : Hp := fun a => if a ∈ A then H' a else F' a
  have s2 : Same F' F2 := fun a o e => by
    show (if a ∈ A then H' a else F' a) = _
    split
    · exact g.ex _ _ e
    · exact e
  have g2 : Go F H F2 H' := by
    refine ⟨g.h, g.f.trans s2, fun a o e => ?_, fun a ha na => ?_⟩
    · have e : (if a ∈ A then H' a else F' a) = some o := e
      split at e
      · exact e
      · exact g.ex _ _ e
    · show (if a ∈ A then H' a else F' a) = _
      split
      · rename_i h1
        obtain ⟨vs, e⟩ := tupA a h1
        exact absurd ((Same.at g.h ha).symm.trans e) (na vs)
      · exact g.n a ha na
  have f2 : ∀ y ∈ ys, ∃ t, y = V.ref t ∧ F2 t = some (.tup ((kF F2 y).map V.int)) ∧ kF F2 y = kF H' y := fun y hy' => by
    obtain ⟨t, e, ht⟩ := hy y hy'
    have e1 : F2 t = some (.tup ((kF H' y).map V.int)) := (if_pos (inA y hy' t e)).trans ht
    have e2 : kF F2 y = kF H' y := by rw [e] at e1 ⊢; exact kF_of e1
    exact ⟨t, e, by rw [e2]; exact e1, e2⟩
  have em : ys.map (kF F2) = ys.map (kF H') := List.map_congr_left fun y hy' => (f2 y hy').choose_spec.2.2
  refine new_list g2 (reps_of_kF fun x hx => ?_) (q (ys.map (kF F2)) (by rw [em]; exact hpm) (by rw [em]; exact List.pairwise_map.mpr hs)) k hl2
  obtain ⟨t, e, a, _⟩ := f2 x hx
  exact ⟨t, e, a⟩
end
end Vl
set_option maxHeartbeats 4000000
/-! sorted(d.pop(k, [])) of an own dict; loops over an effect. -/
namespace Vl
open PySem PySem.Spec PyProof.Rows L2
section
variable {T : Tb} {F F' H H' : Hp}
theorem Owns.del (key : List Key) : ∀ {ks : List (List Key)} {vs : List V} {ms : List M} {C : List Addr}, Owns T F H vs ms C → ∃ C', Owns T F H (delVs ks vs key) (delVs ks ms key) C' ∧ ∀ a ∈ C', a ∈ C
  | [], [], [], _, .nil => ⟨[], .nil, fun _ h => h⟩
  | _ :: _, [], [], _, .nil => ⟨[], .nil, fun _ h => h⟩
  | [], _ :: _, _ :: _, _, .cons _ _ _ => ⟨[], .nil, fun _ h => nomatch h⟩
  | a :: ks, v :: vs, m :: ms, _, .cons (A := A) (B := B) o t d => by
    obtain ⟨C', t', h'⟩ := Owns.del key (ks := ks) t
    by_cases e : a = key
    · refine ⟨C', ?_, fun a q => List.mem_append_right _ (h' a q)⟩
      show Owns T F H (if a = key then delVs ks vs key else v :: delVs ks vs key) (if a = key then delVs ks ms key else m :: delVs ks ms key) C'
      rw [if_pos e, if_pos e]; exact t'
    · refine ⟨A ++ C', ?_, fun a q => ?_⟩
      · show Owns T F H (if a = key then delVs ks vs key else v :: delVs ks vs key) (if a = key then delVs ks ms key else m :: delVs ks ms key) (A ++ C')
        rw [if_neg e, if_neg e]; exact .cons o t' fun a q z => d a q (h' a z)
      · rcases List.mem_append.mp q with q | q
        · exact List.mem_append_left _ q
        · exact List.mem_append_right _ (h' a q)
theorem own_pop {p : Addr} {ks : List (List Key)} {ms : List M} {B : List Addr} {kvs : List (Key × V)} {k : Key} (o : Own T F H (.ref p) (.td false ks ms) B) (hp : H p = some (.dK kvs)) :
    ∃ B', Own T F (upd H p (.dK (dropK kvs k))) (.ref p) (.td false (delKs ks [k]) (delVs ks ms [k])) B' ∧ ∀ a ∈ B', a ∈ B := by
  obtain ⟨p', ob, vs, C, e, rfl, hp', hf, ⟨nd, hd⟩, hn, t⟩ := own_td o
  cases e
  rw [hp] at hp'; cases hp'
  obtain ⟨kvs', e, rfl, rfl⟩ := hd
  cases e
  obtain ⟨C', t', h'⟩ := Owns.del [k] (ks := kvs.map fun p => [p.1]) t
  refine ⟨p :: C', .td upd_same hf ⟨nd.sublist List.filter_sublist, dropK kvs k, rfl, ?_, ?_⟩ (fun q => hn (h' p q)) (t'.keep (Same.refl _) (fun a q => upd_ne fun z => hn (h' p (z ▸ q))) fun a q => (t'.mem a q).2), fun a q => ?_⟩
  · exact (drop_keys (e := fun k : Key => [k]) (fun a b h => one_inj a b h) kvs k).symm
  · exact (drop_valsV (e := fun k : Key => [k]) (fun a b h => one_inj a b h) kvs k).symm
  · rcases List.mem_cons.mp q with q | q
    · rw [q]; exact List.mem_cons_self
    · exact List.mem_cons_of_mem _ (h' a q)
end
theorem Own.root_mem {T : Tb} {F H : Hp} {p : Addr} {t : Bool} {ks : List (List Key)} {ms : List M} {B : List Addr} (o : Own T F H (.ref p) (.td t ks ms) B) : p ∈ B := by
  obtain ⟨p', _, _, _, e, rfl, _⟩ := own_td o
  cases e; exact List.mem_cons_self
/-- sorted(place.pop(k, [])): a dict with int keys, its values lists of tuples of ints -/
def xSortPop (pl : AP) (kx : AE) : AX := fun δ Q => pl δ fun i c m => match m with
  | .td false ks ms => kx δ fun z => ∃ n : Int, clW z = some (.int n) ∧ match getK ks ms [Sum.inl n] with
    | some m => ∃ (d : Nat) (ls : List (List Int)), 1 ≤ d ∧ m = .fl (ls.map tupI) ∧ (∀ k ∈ ls, k.length = d) ∧
      ∀ ls' : List (List Int), ls'.Perm ls → ls'.Pairwise (fun a b => HT.lexLt b a = false) → Q (.fr (.fl (ls'.map tupI))) (setP δ i (c (.td false (delKs ks [Sum.inl n]) (delVs ks ms [Sum.inl n]))))
    | none => Q (.fr (.fl [])) δ
  | .fd false [] [] => kx δ fun z => ∃ n : Int, clW z = some (.int n) ∧ Q (.fr (.fl [])) δ
  | _ => False
section
variable {T : Tb} {X : Cx} {o ke : Expr} {pl : AP} {kx : AE} {p lp apos cpos pos : Pos}
theorem x_sortPop (hTK : T.K = X.K) (hg : Gl X "sorted") (hm : X.mg "sorted" = none) (hv : bootBuiltins "sorted" = some (.builtin "sorted")) (ho : PE X o (rdP T pl)) (hk : PE X ke (rdE T kx)) (m : M2 X o "pop" apos ke (.List [] lp) cpos)
    (hdb : (("sorted" : Str) == ("__debug__" : Str)) = false := by decide) (hnn : ("sorted" : Str) ≠ "__name__" := by decide)
    (he : starEach [.Call (.Attribute o "pop" apos) [ke, .List [] lp] [] cpos] X.env = (false, eval (.Call (.Attribute o "pop" apos) [ke, .List [] lp] [] cpos) X.env) :: starEach [] X.env := by rfl)
    (hpl : (backTo pos (starEach [] X.env)).any (·.1) = false := by rfl) :
    PE X (.Call (.Name "sorted" p) [.Call (.Attribute o "pop" apos) [ke, .List [] lp] [] cpos] [] pos) (rdX T (xSortPop pl kx)) :=
  (pe_callB cr_sortedL hg hm hv (pa_cons (pe_dpop2 ho hk (e_lst (T := T) a_nil) m) pa_nil he) hnn hdb he hpl).mono fun σ H Q h => by
  obtain ⟨G, F, δ, P, R, h, k⟩ := h
  refine ⟨G, F, δ, _, R, h, fun i c mm hw F1 H1 g l m0 v A u B e1 e2 o S => ?_⟩
  clear h
  split at hw
  · rename_i ks ms
    obtain ⟨q, ob, vs0, C0, rfl, rfl, hq, _, hd0, _, _⟩ := own_td S.ow
    refine ⟨q, rfl, isD_of hd0 hq, G, F1, δ, _, R.go g, hw, fun w hz v2 F2 H2 g2 r2 => ?_⟩
    clear hw
    obtain ⟨n, hcl, hz⟩ := hz
    obtain ⟨F3, g3, r3⟩ := clW_rep g2 r2 hcl
    obtain rfl := rep_int r3
    have g13 : Go F H F3 H2 := g.trans g3
    have R3 := R.go g13
    have S3 := S.go g3
    have o3 := o.go g3
    refine ⟨G, F3, δ, fun w => w = .fr (.fl []), R3, ⟨by decide, rfl⟩, fun w hw3 v3 F4 H4 g4 r4 => ?_⟩
    subst hw3
    have g14 : Go F H F4 H4 := g13.trans g4
    have R4 := R.go g14
    have S4 := S3.go g4
    have o4 := o3.go g4
    obtain ⟨q', ob', vs, C, e, _, hp, hf, hd, hn, t⟩ := own_td S4.ow
    cases e
    obtain ⟨nd, kvs, rfl, rfl, rfl⟩ := hd
    have hval : valV kvs (Sum.inl n) = getK (kvs.map fun p => [p.1]) (kvs.map (·.2)) [Sum.inl n] := val_get (e := fun k : Key => [k]) (fun a b h => one_inj a b h) kvs _
    have hlen : (kvs.map fun p => [p.1]).length = ms.length := by
      have := t.length
      rw [List.length_map] at this ⊢
      exact this
    refine ⟨kvs, Sum.inl n, hp, rfl, fun u' hu => ?_, fun hu => ?_⟩
    · rw [hval] at hu
      cases hg2 : getK (kvs.map fun p => [p.1]) ms [Sum.inl n] with
      | none =>
        have := (getK_none (xs := kvs.map (·.2)) (by simp)).mpr ((getK_none hlen).mp hg2)
        rw [hu] at this; cases this
      | some mc =>
        rw [hg2] at hz
        obtain ⟨d, ls, hd1, rfl, hls, hz⟩ := hz
        obtain ⟨q2, ob2, vs2, u2, B2, e3, hp2, hd2, hu2, S5⟩ := sub_td S4.ow hg2
        cases e3
        rw [hp] at hp2; cases hp2
        obtain ⟨_, kvs2, e4, _, rfl⟩ := hd2
        cases e4
        rw [hu] at hu2; cases hu2
        obtain ⟨x, us, rfl, rfl, hx, hfx, rr⟩ := own_fl S5.ow
        have xq : x ≠ q := fun z => by
          have := S5.sub x List.mem_cons_self
          rw [z, hp] at hx; cases hx
        obtain ⟨ek, hk2⟩ := reps_kF rr
        have same : ∀ a, a ≠ q → (upd H4 q (.dK (dropK kvs (Sum.inl n)))) a = H4 a := fun a ha => upd_ne ha
        refine ⟨x, us, d, kF F4, hd1, rfl, SqL.of ((same x xq).trans hx), fun y hy => ?_, fun ys p2 hs hpm hl2 hfree => ?_⟩
        · obtain ⟨t2, e, ht, hm2⟩ := hk2 y hy
          have h5 := R4.ex _ _ ht
          have tq : t2 ≠ q := fun z => by rw [z, hp] at h5; cases h5
          exact ⟨t2, e, (same t2 tq).trans h5, hls _ hm2⟩
        · obtain ⟨B', ob', hB'⟩ := own_pop (k := Sum.inl n) S4.ow hp
          have ex5 : Same F4 (upd H4 q (.dK (dropK kvs (Sum.inl n)))) := fun a ob e => by
            have : a ≠ q := fun z => by rw [z, hf] at e; cases e
            rw [upd_ne this]; exact R4.ex _ _ e
          have R5 := R.plc g14 e1 e2 o4 S4 (F2 := F4) (H2 := upd H4 q (.dK (dropK kvs (Sum.inl n)))) ex5 (Same.refl _) (fun _ _ _ _ => rfl) (fun a ha h4 => upd_ne fun z => ha (by rw [z]; exact S4.ow.root_mem)) (fun a h4 => by
            by_cases z : a = q
            · rw [z, upd_same]; simp
            · rw [upd_ne z]; exact h4) ob' fun a ha => .inl (hB' a ha)
          have rr2 : Reps T F4 ys ((ys.map (kF F4)).map tupI) := reps_of_kF fun y hy => by
            obtain ⟨t2, e, ht, _⟩ := hk2 y (hpm.mem_iff.mp hy)
            exact ⟨t2, e, ht⟩
          have g5 : Go F4 (upd H4 q (.dK (dropK kvs (Sum.inl n)))) F4 (upd (upd H4 q (.dK (dropK kvs (Sum.inl n)))) p2 (.lst ys)) := (Go.refl ex5).lay hfree
          have rw5 : RepW T G (upd H4 q (.dK (dropK kvs (Sum.inl n)))) F4 (upd (upd H4 q (.dK (dropK kvs (Sum.inl n)))) p2 (.lst ys)) (.ref p2) (.fr (.fl ((ys.map (kF F4)).map tupI))) :=
            ⟨[p2], .fl upd_same (ex5.free hfree) rr2, fun a ha => by rw [List.mem_singleton.mp ha]; exact hfree⟩
          exact k _ _ (hz (ys.map (kF F4)) (by rw [← ek]; exact hpm.map _) (List.pairwise_map.mpr hs)) (.ref p2) F4 _ g14.f (R5.go g5) (R5.freshW rw5) (R5.apartW g5 rw5)
    · rw [hval] at hu
      have hg2 : getK (kvs.map fun p => [p.1]) ms [Sum.inl n] = none := (getK_none hlen).mpr ((getK_none (by simp)).mp hu)
      rw [hg2] at hz
      obtain ⟨A4, oA, _⟩ := r4
      obtain ⟨x, us, rfl, rfl, hx, hfx, rr⟩ := own_fl oA
      cases rr
      refine ⟨x, [], 1, kF F4, Nat.le_refl _, rfl, SqL.of hx, fun y hy => (nomatch hy), fun ys p2 hs hpm hl2 hfree => ?_⟩
      have : ys = [] := hpm.eq_nil
      subst this
      have g5 : Go F4 H4 F4 (upd H4 p2 (.lst [])) := (Go.refl R4.ex).lay hfree
      have rw5 : RepW T G H4 F4 (upd H4 p2 (.lst [])) (.ref p2) (.fr (.fl [])) := ⟨[p2], .fl upd_same (R4.ex.free hfree) .nil, fun a ha => by rw [List.mem_singleton.mp ha]; exact hfree⟩
      exact k _ _ hz (.ref p2) F4 _ g14.f (R4.go g5) (R4.freshW rw5) (R4.apartW g5 rw5)
  · obtain ⟨q, ob, vs0, rfl, rfl, hq, _, hd0, _⟩ := own_fd S.ow
    refine ⟨q, rfl, isD_of hd0 hq, G, F1, δ, _, R.go g, hw, fun w hz v2 F2 H2 g2 r2 => ?_⟩
    clear hw
    obtain ⟨n, hcl, hz⟩ := hz
    obtain ⟨F3, g3, r3⟩ := clW_rep g2 r2 hcl
    obtain rfl := rep_int r3
    have g13 : Go F H F3 H2 := g.trans g3
    have R3 := R.go g13
    refine ⟨G, F3, δ, fun w => w = .fr (.fl []), R3, ⟨by decide, rfl⟩, fun w hw3 v3 F4 H4 g4 r4 => ?_⟩
    subst hw3
    have g14 : Go F H F4 H4 := g13.trans g4
    have R4 := R.go g14
    obtain ⟨nd, kvs, rfl, ek, _⟩ := hd0
    have : kvs = [] := by
      cases kvs with
      | nil => rfl
      | cons a l => cases ek
    subst this
    refine ⟨[], Sum.inl n, g4.h _ _ (g3.h _ _ hq), rfl, fun u' hu => (nomatch hu), fun hu => ?_⟩
    obtain ⟨A4, oA, _⟩ := r4
    obtain ⟨x, us, rfl, rfl, hx, hfx, rr⟩ := own_fl oA
    cases rr
    refine ⟨x, [], 1, kF F4, Nat.le_refl _, rfl, SqL.of hx, fun y hy => (nomatch hy), fun ys p2 hs hpm hl2 hfree => ?_⟩
    have : ys = [] := hpm.eq_nil
    subst this
    have g5 : Go F4 H4 F4 (upd H4 p2 (.lst [])) := (Go.refl R4.ex).lay hfree
    have rw5 : RepW T G H4 F4 (upd H4 p2 (.lst [])) (.ref p2) (.fr (.fl [])) := ⟨[p2], .fl upd_same (R4.ex.free hfree) .nil, fun a ha => by rw [List.mem_singleton.mp ha]; exact hfree⟩
    exact k _ _ hz (.ref p2) F4 _ g14.f (R4.go g5) (R4.freshW rw5) (R4.apartW g5 rw5)
  · exact hw.elim
end
end Vl
namespace Vl
open PySem PySem.Spec PyProof.Rows L2
/-- a loop over a new list that an expression with an effect hands on -/
def aForX (a : AX) (g : AG) (body : AS) : AS := fun E δ => a δ fun w δ' => ∃ ds, w = .fr (.fl ds) ∧ Loop g body E δ' ds
section
variable {T : Tb} {X : Cx} {tg it : Expr} {body : List Stmt} {ax : AX} {ag : AG} {s : AS} {ks : List Nat} {pos : Pos}
theorem s_forX (hp : PassesOwn (model X.prog X.w) X.A X.env X.xe) (hc : X.calm = true) (hTK : T.K = X.K) (he : PE X it (rdX T ax)) (hg : PG X tg (rdG T ks ag)) (hb : PSs X body (rdS T s))
    (hs : ∀ x, foldedSetIterable it X.env x = pure x := by intro _; rfl) : PS X (.For tg it body [] pos) (rdS T (aForX ax ag s)) := (ps_for hp hc (pi_list he) hg hb hs).mono fun D σ H h => by
  obtain ⟨G, F, δ, E, R, h, k⟩ := h
  refine ⟨G, F, δ, _, R, h, fun w δ1 hw v F0 H1 sF R0 r ap => ?_⟩
  obtain ⟨ds, rfl, hw⟩ := hw
  obtain ⟨A, o, hA⟩ := r
  obtain ⟨R1, s1, rp⟩ := R0.frzW o hA ap
  obtain ⟨a, vs, rfl, ha, rr⟩ := rep_lst rp
  refine ⟨a, rfl, ⟨vs, SqL.of (R1.ex _ _ ha)⟩, ?_⟩
  have WW : IsWalk T G (ext F0 A H1) (Itl T.K a) ds := walk_fl rr fun F' H' σ' δ' s R' => SqL.of (R'.ex _ _ (s _ _ ha))
  rw [hTK] at WW
  obtain ⟨I, h0, hs, he⟩ := hw
  obtain ⟨Gd, Y, w, stb, yy⟩ := WW
  have sF1 : Same F (ext F0 A H1) := sF.trans s1
  refine for_it w (fun i σ' H' => ∃ F' δ', Same (ext F0 A H1) F' ∧ RepS T G F' H' σ' δ' ∧ I i δ') ⟨_, δ1, Same.refl _, R1, h0⟩ (fun i σ' H' _ ⟨F', δ', s, R', _⟩ => stb F' H' σ' δ' s R') ?_ ?_
  · rintro i x σ' H' H2 hi ⟨F', δ', sm, R', hI⟩ hy
    obtain ⟨rfl, d, hd, rd⟩ := yy i H' x H2 hi (stb F' H' σ' δ' sm R') hy
    refine ⟨G, F', δ', _, d, R', rd F' sm R'.ex, hs i d δ' hd hI, fun δ2 q σ2 _ R2 => ?_⟩
    refine ⟨G, F', δ2, _, R2, q, ?_⟩
    exact ⟨fun δ3 q3 F3 H3 σ3 s3 R3 => ⟨F3, δ3, sm.trans s3, R3, q3⟩, fun w δ3 q3 v F3 H3 σ3 s3 => k.rt w δ3 q3 v F3 H3 σ3 (sF1.trans (sm.trans s3)),
      fun δ3 q3 F3 H3 σ3 s3 => k.nx δ3 q3 F3 H3 σ3 (sF1.trans (sm.trans s3)), fun δ3 q3 F3 H3 σ3 s3 R3 => ⟨F3, δ3, sm.trans s3, R3, q3⟩⟩
  · rintro σ' H' ⟨F', δ', sm, R', hI⟩
    exact k.nx _ (he δ' hI) F' H' σ' (sF1.trans sm) R'
end
/-! ### defs with a keyword -/
def aCallK (c : Ct) (n m : Nat) (es ks : AA) : AE := fun δ Q => es δ fun ws => ks δ fun zs => (ws.length = n ∧ zs.length = m) ∧ c (ws ++ zs) Q
/-- the last parameter is not given: None -/
def aCallD (c : Ct) (es : AA) : AE := fun δ Q => es δ fun ws => c (ws ++ [.cl .non]) Q
section
variable {T : Tb} {X : Cx} {k n : Nat} {f : Addr} {fd : FuncData} {ps ks : List Str} {x : Str} {p pos : Pos} {e : Expr} {es : List Expr} {kws : List Keyword} {c : Ct} {xs zs : AA} {g : List Value → List Value → List Value}
theorem e_callK (Fn : FnOk X.prog X.w X.K X.mg X.base CX0 k f fd ps (spC T c)) (hr : Room k X.A) (hg : Gl X x) (hm : X.mg x = some (.ref f)) (hk : PySem.W.keepIn X.K (.ref f) = true) (hb : KBn X.K fd ps n ks g (fun vs zs => vs ++ zs))
    (ha : PA X (e :: es) (rdA T xs)) (hkw : PK X kws (rdA T zs)) (hall : (backToKw pos (keywordEach kws X.env)).all (·.1.isSome) = true := by rfl) (hks : (backToKw pos (keywordEach kws X.env)).filterMap (·.1) = ks := by rfl)
    (hdb : (x == ("__debug__" : Str)) = false := by decide) (he : starEach (e :: es) X.env = (false, eval e X.env) :: starEach es X.env := by rfl)
    (hpl : ((backTo pos (starEach (e :: es) X.env)).any (·.1) || (backToKw pos (keywordEach kws X.env)).any (·.1.isNone)) = false := by rfl) :
    PE X (.Call (.Name x p) (e :: es) kws pos) (rdE T (aCallK c n ks.length xs zs)) :=
  (pe_callN (E := E0) Fn hr hg hm hk hb pass0 ha hkw hall hks hdb he hpl).mono fun σ H Q h => by
    obtain ⟨G, F, δ, P, R, h, kk⟩ := h
    refine ⟨G, F, δ, _, R, h, fun ws hw us F1 H1 g1 r => ⟨G, F1, δ, _, R.go g1, hw, fun zs hz vs F2 H2 g2 r2 => ?_⟩⟩
    obtain ⟨⟨l1, l2⟩, hz⟩ := hz
    refine ⟨r.length.trans l1, r2.length.trans l2, G, F2, ws ++ zs, P, (g1.trans g2).ex, (r.go g2).append r2, hz, fun w hP v F3 H3 g3 r3 => kk w hP v F3 H3 ((g1.trans g2).trans g3) ((RepR.toW r3).back (g1.trans g2).h)⟩
theorem e_callD (Fn : FnOk X.prog X.w X.K X.mg X.base CX0 k f fd ps (spC T c)) (hr : Room k X.A) (hg : Gl X x) (hm : X.mg x = some (.ref f)) (hk : PySem.W.keepIn X.K (.ref f) = true) (hb : ∃ ds, Vals [V.non] ds ∧ Binds X.K fd ps ds)
    (ha : PA X (e :: es) (rdA T xs)) (hdb : (x == ("__debug__" : Str)) = false := by decide) (he : starEach (e :: es) X.env = (false, eval e X.env) :: starEach es X.env := by rfl) (hpl : (backTo pos (starEach es X.env)).any (·.1) = false := by rfl) :
    PE X (.Call (.Name x p) (e :: es) [] pos) (rdE T (aCallD c xs)) := by
  obtain ⟨ds, hd, hb⟩ := hb
  exact (pe_call Fn hr hg hm hk hb hd (E := E0) pass0 ha hdb he hpl).mono fun σ H Q h => by
    obtain ⟨G, F, δ, P, R, h, k⟩ := h
    refine ⟨G, F, δ, _, R, h, fun ws hw vs F1 H1 g r => ?_⟩
    exact ⟨G, F1, ws ++ [.cl .non], P, g.ex, r.append (.cons (show RepA T G F1 H1 V.non (.cl .non) from Rep.non) .nil), hw, fun w hP v F2 H2 g2 r2 => k w hP v F2 H2 (g.trans g2) ((RepR.toW r2).back g.h)⟩
end
end Vl
namespace Vl
open PySem PySem.Spec PyProof.Rows L2
/-- a def whose last parameter is keyword-only, None if it lacks -/
theorem bd_mk {K : PySem.W.Frag} {x qual kw : Str} {st : Stmt} {f D : Addr} {ps : List Str} {oc doc pm cd ct : Value} {od an : Option Addr} {sl : Array (Option Value)} (n : Nat)
    (l : K.lookup f = some ⟨oc, od, .func (PySem.W.fnOf x qual (defArgs st) (defBody st) (defScope st) .none (.ref D) doc pm an cd ct), sl⟩) (c : PySem.W.codeIn K cd qual = true) (k : PySem.W.keepIn K (.ref f) = true)
    (w : PySem.W.nsIn K D kw = some (some .none)) (hn : n + 1 = ps.length)
    (h : ∀ (D : Addr) (doc pm : Value) (an : Option Addr) (cdv ct : Value) (us ks : List Value), us.length = n → ks.length = 1 →
      KwChain D ([kw].zip ks) (bindArgs (PySem.W.fnOf x qual (defArgs st) (defBody st) (defScope st) .none (.ref D) doc pm an cdv ct) ⟨us, []⟩) (ps.zip (us ++ ks))) :
    ∃ ds, Vals [V.non] ds ∧ Binds K (PySem.W.fnOf x qual (defArgs st) (defBody st) (defScope st) .none (.ref D) doc pm an cd ct) ps ds :=
  FunD.binds0 (kws := [(kw, V.non)]) ⟨⟨oc, od, .none, .ref D, doc, pm, an, cd, ct, sl, rfl, l, c, .inl ⟨rfl, rfl⟩, .inr ⟨D, rfl, fun q hq => by
    rw [List.mem_singleton.mp hq]; exact ⟨_, w, rfl⟩⟩⟩, k⟩ n (by intro z; cases z) hn h
end Vl
namespace Vl
open PySem PySem.Spec PyProof.Rows L2
/-- {} whose values will be own objects -/
def aDNewM (t : Bool) : AE := fun _ Q => Q (.fr (.td t [] []))
section
variable {T : Tb} {X : Cx} {pos : Pos}
theorem e_dnewKM : PE X (.Dict [] [] pos) (rdE T (aDNewM false)) := pe_dnewK.mono fun σ H Q h => by
  obtain ⟨G, F, δ, P, R, h, k⟩ := h
  intro p hp
  exact k _ h _ F _ ((Go.refl R.ex).lay hp) ⟨[p], .td upd_same (R.ex.free hp) ⟨List.nodup_nil, [], rfl, rfl, rfl⟩ (fun q => nomatch q) .nil, fun a q => by rw [List.mem_singleton.mp q]; exact hp⟩
theorem e_dnewTM : PE X (.Dict [] [] pos) (rdE T (aDNewM true)) := pe_dnewT.mono fun σ H Q h => by
  obtain ⟨G, F, δ, P, R, h, k⟩ := h
  intro p hp
  exact k _ h _ F _ ((Go.refl R.ex).lay hp) ⟨[p], .td upd_same (R.ex.free hp) ⟨List.nodup_nil, [], rfl, rfl, rfl⟩ (fun q => nomatch q) .nil, fun a q => by rw [List.mem_singleton.mp q]; exact hp⟩
end
/-! ### dicts as lists of pairs -/
section
variable {κ α β : Type} [DecidableEq κ]
def look : List (κ × α) → κ → Option α
  | [], _ => none
  | (a, x) :: l, k => if a = k then some x else look l k
def putA : List (κ × α) → κ → α → List (κ × α)
  | [], k, v => [(k, v)]
  | (a, x) :: l, k, v => if a = k then (a, v) :: l else (a, x) :: putA l k v
def delA (l : List (κ × α)) (k : κ) : List (κ × α) := l.filter fun p => decide (p.1 ≠ k)
theorem look_put (l : List (κ × α)) (k j : κ) (v : α) : look (putA l k v) j = if j = k then some v else look l j := by
  induction l with
  | nil =>
    show (if k = j then some v else none) = if j = k then some v else none
    by_cases e : k = j
    · rw [if_pos e, if_pos e.symm]
    · rw [if_neg e, if_neg (Ne.symm e)]
  | cons a l ih =>
    obtain ⟨a, x⟩ := a
    unfold putA
    by_cases e : a = k
    · rw [if_pos e]
      show (if a = j then some v else look l j) = _
      by_cases q : j = k
      · rw [if_pos q, if_pos (e.trans q.symm)]
      · rw [if_neg q, if_neg (fun z => q (z.symm.trans e))]
        show _ = if a = j then some x else look l j
        rw [if_neg (fun z => q (z.symm.trans e))]
    · rw [if_neg e]
      show (if a = j then some x else look (putA l k v) j) = if j = k then some v else if a = j then some x else look l j
      by_cases q : a = j
      · rw [if_pos q, if_pos q, if_neg (fun z => e (q.trans z))]
      · rw [if_neg q, if_neg q, ih]
theorem look_del (l : List (κ × α)) (k j : κ) : look (delA l k) j = if j = k then none else look l j := by
  induction l with
  | nil => unfold delA look; simp
  | cons a l ih =>
    obtain ⟨a, x⟩ := a
    unfold delA at ih ⊢
    rw [List.filter_cons]
    by_cases e : a = k
    · rw [if_neg (by simp [e]), ih]
      show _ = if j = k then none else if a = j then some x else look l j
      by_cases q : j = k
      · rw [if_pos q, if_pos q]
      · rw [if_neg q, if_neg q, if_neg (fun z => q (z.symm.trans e))]
    · rw [if_pos (by simp [e])]
      show (if a = j then some x else look _ j) = if j = k then none else if a = j then some x else look l j
      by_cases q : a = j
      · rw [if_pos q, if_pos q, if_neg (fun z => e (q.trans z))]
      · rw [if_neg q, if_neg q, ih]
theorem look_mem {l : List (κ × α)} {k : κ} {v : α} (h : look l k = some v) : (k, v) ∈ l := by
  induction l with
  | nil => cases h
  | cons a l ih =>
    obtain ⟨a, x⟩ := a
    have h : (if a = k then some x else look l k) = some v := h
    by_cases e : a = k
    · rw [if_pos e] at h; cases h; rw [e]; exact List.mem_cons_self
    · rw [if_neg e] at h; exact List.mem_cons_of_mem _ (ih h)
theorem putA_len (l : List (κ × α)) (k : κ) (v : α) : (putA l k v).length ≤ l.length + 1 := by
  induction l with
  | nil => exact Nat.le_refl _
  | cons a l ih =>
    obtain ⟨a, x⟩ := a
    unfold putA
    split
    · exact Nat.le_succ _
    · rw [List.length_cons, List.length_cons]; omega
theorem putA_there (l : List (κ × α)) (k : κ) (v : α) (h : look l k ≠ none) : (putA l k v).length = l.length := by
  induction l with
  | nil => exact absurd rfl h
  | cons a l ih =>
    obtain ⟨a, x⟩ := a
    unfold putA
    by_cases e : a = k
    · rw [if_pos e]; rfl
    · rw [if_neg e, List.length_cons, List.length_cons, ih (by
        have h : ¬ (if a = k then some x else look l k) = none := h
        rw [if_neg e] at h; exact h)]
theorem putA_putA (l : List (κ × α)) (k : κ) (v w : α) : putA (putA l k v) k w = putA l k w := by
  induction l with
  | nil => show (if k = k then [(k, w)] else _) = _; rw [if_pos rfl]; rfl
  | cons a l ih =>
    obtain ⟨a, x⟩ := a
    by_cases e : a = k
    · have e1 : putA ((a, x) :: l) k v = (a, v) :: l := if_pos e
      have e2 : putA ((a, x) :: l) k w = (a, w) :: l := if_pos e
      rw [e1, e2]; exact if_pos e
    · have e1 : putA ((a, x) :: l) k v = (a, x) :: putA l k v := if_neg e
      have e2 : putA ((a, x) :: l) k w = (a, x) :: putA l k w := if_neg e
      rw [e1, e2, ← ih]; exact if_neg e
theorem putA_keys (l : List (κ × α)) (k : κ) (v : α) (h : look l k ≠ none) (g : κ → β) : (putA l k v).map (fun p => g p.1) = l.map fun p => g p.1 := by
  induction l with
  | nil => exact absurd rfl h
  | cons a l ih =>
    obtain ⟨a, x⟩ := a
    by_cases e : a = k
    · have e1 : putA ((a, x) :: l) k v = (a, v) :: l := if_pos e
      rw [e1]; rfl
    · have e1 : putA ((a, x) :: l) k v = (a, x) :: putA l k v := if_neg e
      have h : ¬ (if a = k then some x else look l k) = none := h
      rw [if_neg e] at h
      rw [e1, List.map_cons, ih h]; rfl
theorem mem_putA {l : List (κ × α)} {k : κ} {v : α} {p : κ × α} (h : p ∈ putA l k v) : p ∈ l ∨ p = (k, v) := by
  induction l with
  | nil => exact .inr (List.mem_singleton.mp h)
  | cons a l ih =>
    obtain ⟨a, x⟩ := a
    by_cases e : a = k
    · have e1 : putA ((a, x) :: l) k v = (a, v) :: l := if_pos e
      rw [e1] at h
      rcases List.mem_cons.mp h with h | h
      · right; rw [h, e]
      · left; exact List.mem_cons_of_mem _ h
    · have e1 : putA ((a, x) :: l) k v = (a, x) :: putA l k v := if_neg e
      rw [e1] at h
      rcases List.mem_cons.mp h with h | h
      · left; rw [h]; exact List.mem_cons_self
      · rcases ih h with h | h
        · left; exact List.mem_cons_of_mem _ h
        · right; exact h
variable (en : κ → List Key) (he : ∀ a b, en a = en b → a = b) (f : α → β)
include he
theorem getK_look (l : List (κ × α)) (k : κ) : getK (l.map fun p => en p.1) (l.map fun p => f p.2) (en k) = (look l k).map f := by
  induction l with
  | nil => rfl
  | cons a l ih =>
    obtain ⟨a, x⟩ := a
    show (if en a = en k then some (f x) else _) = Option.map f (if a = k then some x else look l k)
    by_cases e : a = k
    · rw [if_pos e, if_pos (by rw [e])]; rfl
    · rw [if_neg e, if_neg fun z => e (he _ _ z)]; exact ih
theorem mem_look (l : List (κ × α)) (k : κ) : en k ∈ l.map (fun p => en p.1) ↔ look l k ≠ none := by
  induction l with
  | nil => simp [look]
  | cons a l ih =>
    obtain ⟨a, x⟩ := a
    show en k ∈ en a :: _ ↔ (if a = k then some x else look l k) ≠ none
    rw [List.mem_cons]
    by_cases e : a = k
    · rw [if_pos e]; exact ⟨fun _ z => (nomatch z), fun _ => .inl (by rw [e])⟩
    · rw [if_neg e, ← ih]
      exact ⟨fun z => z.resolve_left fun q => e (he _ _ q).symm, .inr⟩
theorem putKs_A (l : List (κ × α)) (k : κ) (v : α) : putKs (l.map fun p => en p.1) (en k) = (putA l k v).map fun p => en p.1 := by
  induction l with
  | nil => rfl
  | cons a l ih =>
    obtain ⟨a, x⟩ := a
    unfold putA
    by_cases e : a = k
    · rw [if_pos e]
      unfold putKs
      rw [if_pos (by rw [e]; exact List.mem_cons_self)]; rfl
    · rw [if_neg e, List.map_cons, putKs_cons (fun z => e (he _ _ z)), ih]; rfl
theorem putVs_A (l : List (κ × α)) (k : κ) (v : α) : putVs (l.map fun p => en p.1) (l.map fun p => f p.2) (en k) (f v) = (putA l k v).map fun p => f p.2 := by
  induction l with
  | nil => rfl
  | cons a l ih =>
    obtain ⟨a, x⟩ := a
    unfold putA
    show (if en a = en k then _ else _) = _
    by_cases e : a = k
    · rw [if_pos e, if_pos (by rw [e])]; rfl
    · rw [if_neg e, if_neg fun z => e (he _ _ z), ih]; rfl
theorem delKs_A (l : List (κ × α)) (k : κ) : delKs (l.map fun p => en p.1) (en k) = (delA l k).map fun p => en p.1 := by
  unfold delKs delA
  rw [List.filter_map]
  congr 1
  apply List.filter_congr
  rintro ⟨a, x⟩ _
  show decide (en a ≠ en k) = decide (a ≠ k)
  by_cases e : a = k
  · rw [e]; simp
  · rw [decide_eq_true e, decide_eq_true (show en a ≠ en k from fun z => e (he _ _ z))]
theorem delVs_A (l : List (κ × α)) (k : κ) : delVs (l.map fun p => en p.1) (l.map fun p => f p.2) (en k) = (delA l k).map fun p => f p.2 := by
  induction l with
  | nil => rfl
  | cons a l ih =>
    obtain ⟨a, x⟩ := a
    unfold delA at ih ⊢
    show (if en a = en k then _ else _) = _
    rw [List.filter_cons]
    by_cases e : a = k
    · rw [if_pos (by rw [e]), if_neg (by simp [e]), ← ih]
    · rw [if_neg (fun z => e (he _ _ z)), if_pos (by simp [e]), List.map_cons, ← ih]
end
end Vl
namespace Vl
open PySem PySem.Spec PyProof.Rows L2
theorem fSortT_eq (w : W) (Q : W → Prop) : fSortT [w] Q = ∃ (d : Nat) (ks : List (List Int)), 1 ≤ d ∧ lstC w = some (ks.map tupI) ∧ (∀ k ∈ ks, k.length = d) ∧ ∀ ms : List (List Int), ms.Perm ks → ms.Pairwise (fun a b => HT.lexLt b a = false) → Q (.fr (.fl (ms.map tupI))) := rfl
theorem fSortDT_eq (w : W) (Q : W → Prop) : fSortDT [w] Q = ∃ (n : Nat) (ks : List (List Int)) (us : List W), 1 ≤ n ∧ kidsW w = some (true, ks.map keyIs', us) ∧ (∀ k ∈ ks, k.length = n) ∧ ∀ ms : List (List Int), ms.Perm ks → ms.Pairwise (fun a b => HT.lexLt b a = false) → Q (.fr (.fl (ms.map tupI))) := rfl
theorem fMinD_eq (w : W) (Q : W → Prop) : fMinD [w] Q = ∃ (ns : List Int) (us : List W), kidsW w = some (false, ns.map keyI, us) ∧ 0 < ns.length ∧ ∀ m, m ∈ ns → (∀ y ∈ ns, m ≤ y) → Q (.cl (.int m)) := rfl
theorem fMaxD_eq (w : W) (Q : W → Prop) : fMaxD [w] Q = ∃ (ns : List Int) (us : List W), kidsW w = some (false, ns.map keyI, us) ∧ 0 < ns.length ∧ ∀ m, m ∈ ns → (∀ y ∈ ns, y ≤ m) → Q (.cl (.int m)) := rfl
theorem aForX_eq (a : AX) (g : AG) (body : AS) (E : AEnds) (δ : List AV) : aForX a g body E δ = a δ fun w δ' => ∃ ds, w = .fr (.fl ds) ∧ Loop g body E δ' ds := rfl
end Vl
namespace Vl
open PySem PySem.Spec PyProof.Rows L2
section
variable {T : Tb} {X : Cx} {c : Nat} {g : List D → Prop}
/-- xs == ys where the data are equal -/
def dEqS (g : List D → Prop) (c k : Nat) : W → W → (W → Prop) → Prop := fun x y Q => match itemsC x, itemsC y with
  | some ds, some es => ds = es ∧ (∀ d ∈ ds, lvD g c k d) ∧ Q (.cl (.bl true))
  | _, _ => False
theorem b_eqS {k : Nat} : Bin2 T (rEqG (DList (DLev T g c k))) (dEqS g c k) := by
  intro G F H F' H' x y u w P Q go rx ry h kk
  unfold dEqS at h
  split at h
  · rename_i ds es h1 h2
    obtain ⟨rfl, hl, q⟩ := h
    obtain ⟨a, vs, rfl, ha, ra⟩ := rx.items go.ex h1
    obtain ⟨b, ws, rfl, hb, rb⟩ := ry.items go.ex h2
    have prs : ∀ {vs ws : List V} {ds : List D}, (∀ d ∈ ds, lvD g c k d) → Reps T F' vs ds → Reps T F' ws ds → Prs (DLev T g c k) vs ws H' := by
      intro vs ws ds
      induction ds generalizing vs ws with
      | nil => intro _ r1 r2; cases r1; cases r2; exact Prs.nil
      | cons d ds ih =>
        intro hd r1 r2
        cases r1 with
        | cons p1 t1 =>
          cases r2 with
          | cons p2 t2 => exact Prs.cons (lev_of go.ex (hd d List.mem_cons_self) p1 p2) (ih (fun d q => hd d (List.mem_cons_of_mem _ q)) t1 t2)
    refine ⟨⟨a, b, vs, ws, rfl, rfl, ha, hb, prs hl ra rb⟩, fun H2 e => kk _ q _ F' H2 (go.trans ⟨e, Same.refl _, fun a o z => e _ _ (go.ex _ _ z), fun _ _ _ => rfl⟩) (.bl true)⟩
  · exact h.elim
theorem op_eqS (hTK : T.K = X.K) {ct : Ct} {f : Addr} {fd : FuncData} {ps : List Str} {n k m : Nat} (Fn : FnOk X.prog X.w X.K X.mg X.base CX0 n f fd ps (spC T ct)) (hct : ∀ ds Q, g ds → Q (.cl (.bl true)) → ct [.cl (.ins c ds), .cl (.ins c ds)] Q)
    (hm : Meth X.K (T.cl c) "__eq__" f) (hb : Binds X.K fd ps []) (hr : Room m X.A) (hmn : n + k + 1 ≤ m) : OpR X (compareOp .Eq) (rEqG (DList (DLev T g c k))) :=
  op_eqG (rcG_list (mon_lev k) (eqG_lev hTK (eqG_of Fn hct hm hb) k)) (hr.mono hmn)
end
/-! ### methods without arguments -/
section
variable {T : Tb} {X : Cx} {c k n : Nat} {fa : Addr} {fd : FuncData} {ps : List Str} {ct : Ct} {x : AE} {m : Str} {pos apos : Pos}
theorem e_meth0 {pl : Sem Bool} (hC : Cls X.K (T.cl c)) (hm : Meth X.K (T.cl c) m fa) (Fn : FnOk X.prog X.w X.K X.mg X.base CX0 k fa fd ps (spC T ct)) (hr : Room k X.A) (hb : Binds X.K fd ps []) (hno : m ∉ T.fs c) {o : Expr} (ho : PE X o (rdE T x))
    (ht : eval (.Call (.Attribute o m apos) [] [] pos) X.env = (do
      let ov ← eval o X.env
      standAt apos.atName
      let (f, first) ← holding [ov] (getMethod ov m pl)
      callWith pos f first (backTo pos (starEach [] X.env)) (backToKw pos (keywordEach [] X.env))) := by rfl) :
    PE X (.Call (.Attribute o m apos) [] [] pos) (rdE T (aMeth c ct x aNil)) :=
  (pe_meth0 (E := E0) ho hC hm Fn hr hb .nil pass0 ht).mono fun σ H Q h => by
    obtain ⟨G, F, δ, P, R, h, kk⟩ := h
    refine ⟨G, F, δ, _, R, h, fun w hw v F1 H1 g r => ?_⟩
    have fin : ∀ {w0 : W} {a dx : Addr} {vs : List V} {c' : Nat}, v = .ref a → c' = c → H1 a = some (.ins (T.cl c') dx ((T.fs c').zip vs)) → RepA T G F1 H1 (.ref a) w0 → ct [w0] P → tMeth (T.cl c) m (spC T ct) [] E0 (fun σ H Q => Q v H1) tNil σ H1 Q := by
      rintro w0 a dx vs c' rfl rfl ha ra hw
      refine ⟨a, dx, _, rfl, ha, lookup_zip_none hno, ?_⟩
      show spC T ct (.ref a :: ([] ++ [])) H1 Q E0
      exact ⟨G, F1, [w0], P, g.ex, .cons ra .nil, hw, fun w hP v F3 H3 g3 r3 => kk w hP v F3 H3 (g.trans g3) ((RepR.toW r3).back g.h)⟩
    split at hw
    · rename_i c' ds
      obtain ⟨e1, hw⟩ := hw
      obtain ⟨a, dx, vs, rfl, ha, hl, rr⟩ := rep_ins r
      exact fin (w0 := .cl (.ins c' ds)) rfl e1 (g.ex _ _ ha) r hw
    · rename_i c' ms
      obtain ⟨e1, hw⟩ := hw
      obtain ⟨A, o, hA⟩ := r
      obtain ⟨a, dx, vs, B, rfl, rfl, ha, _⟩ := own_ti o
      exact fin (w0 := .bw (.ti c' ms)) rfl e1 ha ⟨_, o, hA⟩ hw
    · rename_i c' ms
      obtain ⟨e1, hw⟩ := hw
      obtain ⟨A, o⟩ := r
      obtain ⟨a, dx, vs, B, rfl, rfl, ha, _⟩ := own_ti o
      exact fin (w0 := .ow (.ti c' ms)) rfl e1 ha ⟨_, o⟩ hw
    · exact hw.elim
end
/-! ### a part of a tuple -/
def aSlT (e : AE) (lo hi : AO) : AE := fun δ Q => e δ fun w => lo δ fun l => hi δ fun h => match w with
  | .cl (.tup ds) => Q (.cl (.tup (cutD ds l h)))
  | _ => False
section
variable {T : Tb} {X : Cx} {e : Expr} {x : AE} {pos p2 : Pos}
theorem e_slT {lo hi : Option Expr} {l h : AO} (he : PE X e (rdE T x)) (hl : PO X lo (rdO T l)) (hh : PO X hi (rdO T h)) : PE X (.Subscript e (.Slice lo hi none p2) pos) (rdE T (aSlT x l h)) := (pe_slice sl_tupA he hl hh).mono fun σ H Q h => by
  obtain ⟨G, F, δ, P, R, h, k⟩ := h
  refine ⟨G, F, δ, _, R, h, fun w hw v F1 H1 g r => ?_⟩
  refine ⟨G, F1, δ, _, R.go g, hw, fun lo hlo F2 H2 g2 => ?_⟩
  refine ⟨G, F2, δ, _, (R.go g).go g2, hlo, fun hi hhi F3 H3 g3 => ?_⟩
  split at hhi
  · rename_i ds
    have g13 := g2.trans g3
    obtain ⟨p, vs, rfl, hp, rr⟩ := rep_tup (Rep.mono g13.f r)
    refine ⟨p, vs, rfl, SqT.of (g13.ex _ _ hp), fun hw => k _ hhi _ F3 H3 (g.trans g13) ?_, fun hw q hq => new_tup (ds := cutD ds lo hi) (g.trans g13) ?_ hhi k hq⟩
    · have e : cutD ds lo hi = ds := by
        rw [rr.length] at hw
        unfold cutD
        rw [hw.1, hw.2, List.drop_zero, Nat.sub_zero, List.take_length]
      rw [e]
      exact .tup hp rr
    · unfold cutV cutD
      rw [rr.length]
      exact (rr.drop _).take _
  · exact hhi.elim
end
/-! ### what is new becomes clean -/
def aClE (e : AE) : AE := fun δ Q => e δ fun w => Q (argW w)
theorem e_cl {T : Tb} {X : Cx} {e : Expr} {x : AE} (h : PE X e (rdE T x)) : PE X e (rdE T (aClE x)) := h.mono fun σ H Q h => by
  obtain ⟨G, F, δ, P, R, h, k⟩ := h
  refine ⟨G, F, δ, _, R, h, fun w hw v F1 H1 g r => ?_⟩
  obtain ⟨F2, g2, _, _, r2, _⟩ := RepW.arg g r
  exact k _ hw v F2 H1 g2 r2
end Vl
namespace Vl
open PySem PySem.Spec PyProof.Rows L2 RZ
/-! ### len(set(xs)), xs a list of ints -/
def uniqN (ns : List Int) : Nat := (PyProof.Rows.firstMet (fun i => ns.getD i 0) ns.length).length
def tLenSetG (K : PySem.W.Frag) (ta : TE) : TE := fun σ H Q => ta σ H fun x H1 => ∃ (l : Addr) (ns : List Int), x = .ref l ∧ SqL K H1 l (ns.map V.int) ∧ ns.length ≤ 4000 ∧ Q (.int (uniqN ns : Nat)) H1
theorem uniq_le (f : Nat → Int) : ∀ i, (PyProof.Rows.firstMet f i).length ≤ i
  | 0 => Nat.le_refl _
  | i + 1 => by
    have ih := uniq_le f i
    rw [PyProof.Rows.firstMet_succ]
    unfold step_dedup
    split
    · omega
    · rw [List.length_append, List.length_singleton]; omega
theorem pe_lenSetG {X : Cx} {a : Expr} {ta : TE} {p p2 q pos : Pos} (hg : Gl X "len") (hm : X.mg "len" = none) (hg2 : Gl X "set") (hm2 : X.mg "set" = none) (ha : PE X a ta) (hc : X.calm = true := by rfl)
    (na : starEach [a] X.env = (false, eval a X.env) :: starEach [] X.env := by rfl) : PE X (.Call (.Name "len" p) [.Call (.Name "set" p2) [a] [] q] [] pos) (tLenSetG X.K ta) := by
  refine ⟨fun pins s σ H Q I h => ?_⟩
  refine Call_ (ld_blt I hg hm boot_len ?_)
  refine PyProof.Rows.callWith_builtin1 (PyProof.Rows.args_cons ?_ rfl) rfl rfl
  refine Call_ (ld_blt I hg2 hm2 boot_set ?_)
  refine PyProof.Rows.callWith_type1 (PyProof.Rows.args_cons (thn (ha.run pins s σ H _ I h) fun v s1 ⟨x, H1, I1, r1, q1⟩ => PyProof.Rows.args_nil ?_) na) na rfl
  obtain ⟨l, ns, rfl, hq, hl, q1⟩ := q1
  cases r1
  obtain ⟨its, r, pl, hz⟩ := I1.list hq
  have hlen : its.toArray.size = ns.length := by rw [List.size_toArray, ← r.length, List.length_map]
  refine call_set_list (I1.ok.hd hc) pl.isList (by simpa using intsAre_vals r) (by rw [hlen]; unfold scanBound; omega) fun h' tk hS hk => ?_
  refine PyProof.Rows.args_nil ?_
  rw [hlen] at hS
  obtain ⟨o, es, ep, t, ho, hex, hd, _, _, _, hf, hn⟩ := hS
  have I2 : Inv X pins σ H1 { s1 with heap := h', toks := tk } := I1.kept fun b o e => hk b o (Heap.lt_size e) e
  have hu := uniq_le (fun i => ns.getD i 0) ns.length
  exact call_len_set ho hex hd hf (by rw [hn] <;> omega) ⟨.int (uniqN ns), H1, I2.tok _, ⟨_, by rw [hn]; rfl⟩, q1⟩
def aLenSet (e : AE) : AE := fun δ Q => e δ fun w => ∃ ns : List Int, itemsC w = some (ns.map .int) ∧ ns.length ≤ 1000 ∧ Q (.cl (.int (uniqN ns : Nat)))
theorem e_lenSet {T : Tb} {X : Cx} {a : Expr} {x : AE} {p p2 q pos : Pos} (hTK : T.K = X.K) (hg : Gl X "len") (hm : X.mg "len" = none) (hg2 : Gl X "set") (hm2 : X.mg "set" = none) (ha : PE X a (rdE T x)) (hc : X.calm = true := by rfl)
    (na : starEach [a] X.env = (false, eval a X.env) :: starEach [] X.env := by rfl) : PE X (.Call (.Name "len" p) [.Call (.Name "set" p2) [a] [] q] [] pos) (rdE T (aLenSet x)) := (pe_lenSetG hg hm hg2 hm2 ha hc na).mono fun σ H Q h => by
  obtain ⟨G, F, δ, P, R, h, k⟩ := h
  refine ⟨G, F, δ, _, R, h, fun w hw v F1 H1 g r => ?_⟩
  obtain ⟨ns, h1, h2, q⟩ := hw
  obtain ⟨l, vs, rfl, hl, rr⟩ := r.items g.ex h1
  have e := reps_ints rr
  subst e
  exact ⟨l, ns, rfl, .inl (.inl hl), by omega, k _ q _ _ _ g (.int _)⟩
theorem mem_first (f : Nat → Int) (x : Int) : ∀ i, x ∈ PyProof.Rows.firstMet f i ↔ ∃ j, j < i ∧ f j = x
  | 0 => ⟨fun z => (nomatch z), fun ⟨j, hj, _⟩ => absurd hj (Nat.not_lt_zero j)⟩
  | i + 1 => by
    have ih := mem_first f x i
    rw [PyProof.Rows.firstMet_succ]
    unfold step_dedup
    split
    · rename_i h
      rw [ih]
      constructor
      · rintro ⟨j, hj, e⟩; exact ⟨j, by omega, e⟩
      · rintro ⟨j, hj, e⟩
        by_cases q : j = i
        · obtain ⟨y, hy, ey⟩ := List.any_eq_true.mp h
          have ey : y = f i := eq_of_beq ey
          rw [← q, e] at ey
          rw [ey] at hy
          exact ih.mp hy
        · exact ⟨j, by omega, e⟩
    · rw [List.mem_append, ih, List.mem_singleton]
      constructor
      · rintro (⟨j, hj, e⟩ | e)
        · exact ⟨j, by omega, e⟩
        · exact ⟨i, by omega, e.symm⟩
      · rintro ⟨j, hj, e⟩
        by_cases q : j = i
        · exact .inr (by rw [← e, q])
        · exact .inl ⟨j, by omega, e⟩
theorem uniq_iff_f (f : Nat → Int) : ∀ i, (PyProof.Rows.firstMet f i).length = i ↔ ∀ a b, a < b → b < i → f a ≠ f b
  | 0 => ⟨fun _ a b _ h => absurd h (Nat.not_lt_zero b), fun _ => rfl⟩
  | i + 1 => by
    have ih := uniq_iff_f f i
    have hm := mem_first f (f i) i
    have hu := uniq_le f i
    rw [PyProof.Rows.firstMet_succ]
    unfold step_dedup
    split
    · rename_i h
      obtain ⟨y, hy, ey⟩ := List.any_eq_true.mp h
      have ey : y = f i := eq_of_beq ey
      rw [ey] at hy
      obtain ⟨j, hj, e⟩ := hm.mp hy
      exact ⟨fun z => by omega, fun z => absurd e (z j i hj (by omega))⟩
    · rename_i h
      rw [List.length_append, List.length_singleton]
      constructor
      · intro z a b hab hb
        by_cases q : b = i
        · intro e
          apply h
          rw [q] at e hab
          exact List.any_eq_true.mpr ⟨f i, hm.mpr ⟨a, hab, e⟩, beq_self_eq_true _⟩
        · exact ih.mp (by omega) a b hab (by omega)
      · intro z
        have := ih.mpr fun a b hab hb => z a b hab (by omega)
        omega
theorem uniq_nodup (ns : List Int) : uniqN ns = ns.length ↔ ns.Nodup := by
  unfold uniqN
  rw [uniq_iff_f]
  unfold List.Nodup
  rw [List.pairwise_iff_getElem]
  constructor
  · intro z i j hi hj hij
    have := z i j hij hj
    rw [List.getD_eq_getElem?_getD, List.getD_eq_getElem?_getD, List.getElem?_eq_getElem hi, List.getElem?_eq_getElem hj] at this
    exact this
  · intro z a b hab hb
    have := z a b (by omega) hb hab
    rw [List.getD_eq_getElem?_getD, List.getD_eq_getElem?_getD, List.getElem?_eq_getElem (show a < ns.length by omega), List.getElem?_eq_getElem hb]
    exact this
/-! ### a class that is made, its last parameters not given: ints -/
theorem bd_mkI2 {K : PySem.W.Frag} {x qual kw kw2 : Str} {i j : Int} {u1 u2 : Tok} {st : Stmt} {f D : Addr} {ps : List Str} {oc doc pm cd ct : Value} {od an : Option Addr} {sl : Array (Option Value)} (n : Nat)
    (l : K.lookup f = some ⟨oc, od, .func (PySem.W.fnOf x qual (defArgs st) (defBody st) (defScope st) .none (.ref D) doc pm an cd ct), sl⟩) (c : PySem.W.codeIn K cd qual = true) (k : PySem.W.keepIn K (.ref f) = true)
    (w1 : PySem.W.nsIn K D kw = some (some (.int i u1))) (w2 : PySem.W.nsIn K D kw2 = some (some (.int j u2))) (hn : n + 2 = ps.length)
    (h : ∀ (D : Addr) (doc pm : Value) (an : Option Addr) (cdv ct : Value) (us ks : List Value), us.length = n → ks.length = 2 →
      KwChain D ([kw, kw2].zip ks) (bindArgs (PySem.W.fnOf x qual (defArgs st) (defBody st) (defScope st) .none (.ref D) doc pm an cdv ct) ⟨us, []⟩) (ps.zip (us ++ ks))) :
    ∃ ds, Vals ([i, j].map V.int) ds ∧ Binds K (PySem.W.fnOf x qual (defArgs st) (defBody st) (defScope st) .none (.ref D) doc pm an cd ct) ps ds :=
  FunD.binds0 (kws := [(kw, V.int i), (kw2, V.int j)]) ⟨⟨oc, od, .none, .ref D, doc, pm, an, cd, ct, sl, rfl, l, c, .inl ⟨rfl, rfl⟩, .inr ⟨D, rfl, fun q hq => by
    rcases List.mem_cons.mp hq with rfl | hq
    · exact ⟨_, w1, ⟨_, rfl⟩⟩
    · rw [List.mem_singleton.mp hq]; exact ⟨_, w2, ⟨_, rfl⟩⟩⟩⟩, k⟩ n (by intro z; cases z) hn h
def aMakeD (c : Nat) (ini : Ini) (es : AA) (is : List Int) : AE := fun δ Q => es δ fun ws => ini (ws ++ is.map fun i => .cl (.int i)) fun ds => Q (.cl (.ins c ds))
theorem reps_is {T : Tb} {G : Gx} {F H : Hp} : ∀ is : List Int, RepAs T G F H (is.map V.int) (is.map fun i => W.cl (.int i))
  | [] => .nil
  | i :: is => .cons (show RepA T G F H (V.int i) (.cl (.int i)) from Rep.int i) (reps_is is)
theorem e_makeD {T : Tb} {X : Cx} {c k : Nat} {fa : Addr} {fd : FuncData} {ps : List Str} {ini : Ini} {f : Str} {p pos : Pos} {e : Expr} {es : List Expr} {xs : AA} {is : List Int} (M : Mk X.K (T.cl c) fa) (Fn : FnOk X.prog X.w X.K X.mg X.base CX0 k fa fd ps (spI T c ini)) (hr : Room (k + 1) X.A) (hg : Gl X f) (hm : X.mg f = some (.ref (T.cl c))) (hb : ∃ ds, Vals (is.map V.int) ds ∧ Binds X.K fd ps ds) (ha : PA X (e :: es) (rdA T xs))
    (hdb : (f == ("__debug__" : Str)) = false := by decide) (he : starEach (e :: es) X.env = (false, eval e X.env) :: starEach es X.env := by rfl) (hpl : (backTo pos (starEach es X.env)).any (·.1) = false := by rfl) :
    PE X (.Call (.Name f p) (e :: es) [] pos) (rdE T (aMakeD c ini xs is)) := by
  obtain ⟨ds, hd, hb⟩ := hb
  exact (pe_make (E := E0) M Fn hr hg hm hb hd pass0 ha hdb he hpl).mono fun σ H Q h => by
    obtain ⟨G, F, δ, P, R, h, kk⟩ := h
    refine ⟨G, F, δ, _, R, h, fun ws hw us F1 H1 g r x dx hx hdx ne => ?_⟩
    exact rd_made g (r.append (reps_is is)) hw kk x dx hx hdx ne
end Vl
namespace Vl
open PySem PySem.Spec PyProof.Rows L2
/-! ### x < y for data alike (tuples and lists of ints, nested) -/
def rLtD (K : PySem.W.Frag) : R2 := fun x y H Q => ∃ d e, Dp K H x d ∧ Dp K H y e ∧ SeqAt.shaped d = true ∧ SeqAt.shaped e = true ∧ PySem.W.alike d e = true ∧ d ≠ .none ∧ Q (.bl (PySem.W.dataLt d e)) H
theorem op_ltD {X : Cx} (hu : X.A.units + 64 < cLine) : OpR X (compareOp .Lt) (rLtD X.K) := by
  intro pins s σ H x y v u Q I rx ry h
  obtain ⟨d, e, hd, he, sd, se, ha, hn, q⟩ := h
  obtain ⟨as, r1⟩ := Dp.reads I d x v hd rx
  obtain ⟨bs, r2⟩ := Dp.reads I e y u he ry
  exact PySem.W.rcLt_alike d e X.A s v u as bs r1 r2 ha hn (SeqAt.room_of_shaped sd hu) X.prog X.w _ _ ⟨.bl _, H, I, rfl, q⟩
def dLtD : W → W → (W → Prop) → Prop := fun x y Q => okD x.toD = true ∧ okD y.toD = true ∧ PySem.W.alike (pd x.toD) (pd y.toD) = true ∧ pd x.toD ≠ .none ∧ Q (.cl (.bl (PySem.W.dataLt (pd x.toD) (pd y.toD))))
theorem b_ltD {T : Tb} : Bin2 T (rLtD T.K) dLtD := by
  intro G F H F' H' x y u w P Q go rx ry h k
  obtain ⟨o1, o2, al, hn, q⟩ := h
  exact ⟨_, _, (rx.rep go.ex).dpo o1, (ry.rep go.ex).dpo o2, o1, o2, al, hn, k _ q _ _ _ go (.bl _)⟩
theorem pds_ints : ∀ xs : List Int, pds (xs.map .int) = xs.map .int
  | [] => rfl
  | x :: r => by rw [List.map_cons, List.map_cons, ← pds_ints r]; rfl
/-- (len(p), p) < (len(q), q) -/
theorem lt_len_list (p q : List Int) : PySem.W.alike (pd (.tup [.int p.length, .lst (p.map .int)])) (pd (.tup [.int q.length, .lst (q.map .int)])) = true ∧
    PySem.W.dataLt (pd (.tup [.int p.length, .lst (p.map .int)])) (pd (.tup [.int q.length, .lst (q.map .int)])) = decide (p.length < q.length ∨ (p.length = q.length ∧ p < q)) := by
  have e1 : pd (.tup [.int p.length, .lst (p.map .int)]) = .tuple [.int p.length, .list (p.map .int)] := by
    show PyData.tuple [.int p.length, .list (pds (p.map .int))] = _
    rw [pds_ints]
  have e2 : pd (.tup [.int q.length, .lst (q.map .int)]) = .tuple [.int q.length, .list (q.map .int)] := by
    show PyData.tuple [.int q.length, .list (pds (q.map .int))] = _
    rw [pds_ints]
  have al : ∀ xs ys : List Int, PySem.W.alike (.list (xs.map .int)) (.list (ys.map .int)) = true := by
    intro xs ys
    simp only [PySem.W.alike]
    induction xs generalizing ys with
    | nil => simp [PySem.W.alikeAll]
    | cons x r ih =>
      cases ys with
      | nil => simp [PySem.W.alikeAll]
      | cons y s => simp [PySem.W.alikeAll, PySem.W.alike, ih]
  have ai : ∀ i j : Int, PySem.W.alike (.int i) (.int j) = true := fun i j => by simp [PySem.W.alike]
  rw [e1, e2]
  constructor
  · simp only [PySem.W.alike, PySem.W.alikeAll, Bool.and_eq_true]
    have := al p q
    simp only [PySem.W.alike] at this
    exact ⟨trivial, this, trivial⟩
  · rw [PySem.W.dataLt_pair (ai _ _) (al _ _), PySem.W.dataLt_int, PySem.W.dataLt_list]
    have := PySem.W.dataLt_ints p q
    unfold PySem.W.rowLt at this
    rw [this]
    have e : PyData.eqv (.list (p.map .int)) (.list (q.map .int)) = true ↔ p = q := by
      rw [← pds_ints, ← pds_ints, show PyData.eqv (.list (pds (p.map .int))) (.list (pds (q.map .int))) = eqD (.lst (p.map .int)) (.lst (q.map .int)) from rfl]
      rw [eqD_lst (f := D.int) (fun x y => by show (x == y) = _; exact (Bool.beq_eq_decide_eq x y))]
      exact decide_eq_true_iff
    by_cases h1 : p.length = q.length
    · rw [if_pos (by rw [h1]; simp [PyData.eqv])]
      by_cases h2 : p = q
      · rw [if_pos (e.mpr h2), h2]
        simp [List.lt_irrefl]
      · rw [if_neg (fun z => h2 (e.mp z))]
        simp [h1]
    · rw [if_neg (by simp [PyData.eqv]; omega)]
      apply decide_eq_decide.mpr
      constructor
      · intro z; exact .inl (by omega)
      · rintro (z | z)
        · omega
        · exact absurd z.1 h1
end Vl
/-! Tuples of own things; comprehensions whose items are own things. -/
namespace Vl
open PySem PySem.Spec PyProof.Rows L2
def aTupO (es : AAO) : AE := fun δ Q => es δ fun ms => ms.length ≤ 1000000 ∧ Q (.fr (.tp ms))
def lcGoO (g : AG) (t : AT) (e : AE) (δ : List AV) : List D → List M → (W → Prop) → Prop
  | [], acc, Q => Q (.fr (.tl acc))
  | d :: ds, acc, Q => g d δ fun δ2 => t δ2 fun b => if b = true then e δ2 fun w => match kidW w with
      | some m => acc.length < 1000000 ∧ lcGoO g t e δ ds (acc ++ [m]) Q
      | none => False
    else lcGoO g t e δ ds acc Q
/-- a comprehension whose items are new own things -/
def aLcO (ai : AI) (g : AG) (t : AT) (e : AE) (vs : List Nat) : AE := fun δ Q => ai δ fun ds => lcGoO g t e (wipeA δ vs) ds [] Q
section
variable {T : Tb} {X : Cx} {e : Expr} {es : List Expr} {xs : AAO} {pos : Pos} {vs ks : List Nat} {σ : L2.St} {H : Hp}
theorem e_tupO {x1} (h : PA X es (rdAO T xs)) : PE X (.Tuple es x1 pos) (rdE T (aTupO xs)) := (pe_tup h).mono fun σ H Q h => by
  obtain ⟨G, F, δ, P, R, h, k⟩ := h
  refine ⟨G, F, δ, _, R, h, fun ms hw vs F1 H1 B g t hB => ?_⟩
  obtain ⟨l, q⟩ := hw
  refine ⟨by rw [t.length]; exact dSz_line l, fun p hp => ?_⟩
  have pB : p ∉ B := fun z => (t.mem p z).1 hp
  refine k _ q _ F1 _ (g.lay hp) ⟨p :: B, .tp upd_same pB (t.keep (Same.refl _) (fun a z => upd_ne fun y => pB (y ▸ z)) fun a z => (t.mem a z).2), fun a z => ?_⟩
  rcases List.mem_cons.mp z with z | z
  · rw [z]; exact g.h.free hp
  · exact hB a z
theorem rd_lcO {ai : AI} {ag : AG} {t : AT} {e : AE} (hk : ∀ i ∈ ks, i ∈ vs) {Q : VK} (h : rdE T (aLcO ai ag t e vs) σ H Q) : tLc (rdIG T ai) (rdG T ks ag) (rdT T t) (rdE T e) vs σ H Q := by
  obtain ⟨G, F, δ, P, R, h, k⟩ := h
  refine ⟨G, F, δ, _, R, h, fun ds hd J F1 H1 g W => fun DD hD => ?_⟩
  obtain ⟨Gd, Y, w, stb, yy⟩ := W
  have R1 := R.go g
  have hD0 : H DD = none := g.h.free hD
  have Rw := R1.wipe vs
  refine lc_it w (fun i H' => ∃ F' acc accV B, Go F1 H1 F' H' ∧ F' DD = none ∧ H' DD = some (.lst accV) ∧ Owns T F' H' accV acc B ∧ (∀ a ∈ B, H1 a = none ∧ a ≠ DD) ∧ lcGoO ag t e (wipeA δ vs) (ds.drop i) acc P) ⟨F1, [], [], [], (Go.refl g.ex).lay hD, g.ex.free hD, upd_same, .nil, fun a q => (nomatch q), hd⟩
    (fun i H' _ ⟨F', _, _, _, g1, _⟩ => stb F' H' g1) ?_ ?_
  · rintro i x H' H2 hi ⟨F', acc, accV, B, g1, f1, h1, r1, hB, hq⟩ hy
    have R' := Rw.go g1
    obtain ⟨rfl, d, hd, rd⟩ := yy i H' x H2 hi (stb F' H' g1) hy
    have e1 : ds.drop i = d :: ds.drop (i + 1) := by
      obtain ⟨hl, he⟩ := List.getElem?_eq_some_iff.mp hd
      rw [List.drop_eq_getElem_cons hl, he]
    rw [e1] at hq
    unfold lcGoO at hq
    refine ⟨G, F', _, _, d, R', rd F' g1.f g1.ex, hq, fun δ2 q σ2 kp R2 => ⟨wipe_keep hk kp, ?_⟩⟩
    refine ⟨G, F', δ2, _, R2, q, fun b hb F3 H3 g3 => ?_⟩
    have f3 : F3 DD = none := (g3.n DD (by rw [h1]; simp) (nt_of h1)).trans f1
    have h3 : H3 DD = some (.lst accV) := g3.h _ _ h1
    cases b with
    | true =>
      rw [if_pos rfl] at hb
      refine iteT ?_
      refine ⟨G, F3, δ2, _, R2.go g3, hb, fun w hw v F4 H4 g4 r4 => ?_⟩
      split at hw
      · rename_i m hm
        obtain ⟨D0, od, hD0'⟩ := kid_own g4 r4 hm
        have h4 : H4 DD = some (.lst accV) := g4.h _ _ h3
        have f4 : F4 DD = none := (g4.n DD (by rw [h3]; simp) (nt_of h3)).trans f3
        have r4' := (r1.go g3).go g4
        have dB : DD ∉ B := fun z => (hB DD z).2 rfl
        have dD : DD ∉ D0 := fun z => by have := hD0' DD z; rw [h3] at this; cases this
        have rk := r4'.keep (H' := upd H4 DD (.lst (accV ++ [v]))) (Same.refl _) (fun a z => upd_ne fun y => dB (y ▸ z)) fun a z => (r4'.mem a z).2
        have ok := od.keep (H' := upd H4 DD (.lst (accV ++ [v]))) (Same.refl _) (fun a z => upd_ne fun y => dD (y ▸ z)) fun a z => (od.mem a z).2
        obtain ⟨B2, r5, h5⟩ := rk.snoc (N := fun a => H3 a = none) ok hD0' fun a n z => ((r1.go g3).mem a z).1 n
        refine ⟨accV, h4, by rw [r1.length]; exact dSz_lt hw.1, F4, acc ++ [m], accV ++ [v], B2, (g1.trans (g3.trans g4)).side hD f4, f4, upd_same, r5, fun a z => ?_, hw.2⟩
        rcases h5 a z with y | y
        · exact hB a y
        · exact ⟨(g1.h.trans g3.h).free y, fun e => by rw [e, h3] at y; cases y⟩
      · exact hw.elim
    | false =>
      rw [if_neg Bool.false_ne_true] at hb
      refine iteF ?_
      exact ⟨F3, acc, accV, B, g1.trans g3, f3, h3, r1.go g3, hB, hb⟩
  · rintro H' ⟨F', acc, accV, B, g1, f1, h1, r1, hB, hq⟩
    rw [List.drop_length] at hq
    unfold lcGoO at hq
    refine k _ hq _ F' H' (g.trans g1) ⟨DD :: B, .tl h1 f1 (fun z => (hB DD z).2 rfl) r1, fun a q => ?_⟩
    rcases List.mem_cons.mp q with q | q
    · rw [q]; exact hD0
    · exact g.h.free (hB a q).1
theorem e_lcO {elt tg iter : Expr} {ifs : List Expr} {scope : Scope} {own : List (Str × Nat)} {pos : Pos} {ai : AI} {ag : AG} {t : AT} {e : AE} (hc : X.calm = true) (hN : X.N.Nodup) (hi : PI X tg iter (rdIG T ai)) (ok : BlkOk X.N X.env.scope scope own) (hk : ∀ i ∈ ks, i ∈ own.map (·.2))
    (hg : ∀ (s : Shared) (H : Hp) (C : Addr) (cl : List (Str × Addr)) (fp : List Addr), PG (X.blk s H scope (compEnvC scope cl C X.env) fp) tg (rdG T ks ag)) (ht : ∀ (s : Shared) (H : Hp) (C : Addr) (cl : List (Str × Addr)) (fp : List Addr), PTs (X.blk s H scope (compEnvC scope cl C X.env) fp) ifs (rdT T t))
    (he : ∀ (s : Shared) (H : Hp) (C : Addr) (cl : List (Str × Addr)) (fp : List Addr), PE (X.blk s H scope (compEnvC scope cl C X.env) fp) elt (rdE T e)) (hs : ∀ x, foldedSetIterable iter X.env x = pure x := by intro _; rfl) :
    PE X (.ListComp elt [⟨tg, iter, ifs, 0⟩] scope pos) (rdE T (aLcO ai ag t e (own.map (·.2)))) := (pe_lc hc hN hi ok hg ht he hs).mono fun _ _ _ h => rd_lcO hk h
end
/-! ### a clean item is put behind own ones; != -/
def mAppendT : FM := fun m ws P => match m, ws with
  | .tl ms, [.cl d] => ms.length < 1000000 ∧ P (.tl (ms ++ [.cl d])) .non
  | _, _ => False
def itemsT : W → Option (List D)
  | .cl (.lst ds) => some ds
  | .bw m => match m with
    | .fl ds => some ds
    | .tl ms => some (M.toDs ms)
    | _ => none
  | .ow m => match m with
    | .fl ds => some ds
    | .tl ms => some (M.toDs ms)
    | _ => none
  | .fr m => match m with
    | .fl ds => some ds
    | .tl ms => some (M.toDs ms)
    | _ => none
  | _ => none
section
variable {T : Tb} {X : Cx} {c : Nat} {g : List D → Prop}
theorem m_appendT : MutV T rAppend mAppendT := by
  intro G F H v m A xs ws P Q sm ow ra h k
  unfold mAppendT at h
  split at h
  · rename_i ms d
    obtain ⟨p, vs, B, rfl, rfl, ho, hf, pB, r⟩ := own_tl ow
    cases ra with
    | cons r2 t =>
      cases t
      rename_i u
      have rk := r.keep (H' := upd H p (.lst (vs ++ [u]))) (Same.refl _) (fun a z => upd_ne fun y => pB (y ▸ z)) fun a z => (r.mem a z).2
      obtain ⟨B2, r5, h5⟩ := rk.snoc (N := fun _ => False) (.cl r2) (fun a q => nomatch q) fun a n => n.elim
      refine ⟨p, vs, _, rfl, rfl, ho, by rw [r.length]; exact dSz_lt h.1, k _ _ h.2 _ _ (p :: B2) (chg_upd sm List.mem_cons_self hf) (.tl upd_same hf (fun z => (h5 p z).elim pB id) r5) (fun a q => ?_) .non⟩
      rcases List.mem_cons.mp q with q | q
      · rw [q]; exact List.mem_cons_self
      · exact List.mem_cons_of_mem _ ((h5 a q).elim id fun z => z.elim)
  · exact h.elim
theorem RepW.itemsT {G : Gx} {Hs F H : Hp} {v : V} {w : W} {ds : List D} (ex : Same F H) (r : RepW T G Hs F H v w) (h : Vl.itemsT w = some ds) : ∃ a vs, v = .ref a ∧ H a = some (.lst vs) ∧ Reps T H vs ds := by
  have own : ∀ {m : M} {A : List Addr}, Own T F H v m A → (match m with
    | .fl ds => some ds
    | .tl ms => some (M.toDs ms)
    | _ => none) = some ds → ∃ a vs, v = .ref a ∧ H a = some (.lst vs) ∧ Reps T H vs ds := fun {m A} o h => by
    have q := o.rep ex
    cases m with
    | fl ds' => cases h; exact rep_lst q
    | tl ms => cases h; exact rep_lst q
    | cl d => cases h
    | fd _ _ _ => cases h
    | td _ _ _ => cases h
    | ti _ _ => cases h
    | tp _ => cases h
    | nd _ => cases h
  cases w with
  | cl d =>
    have q := Rep.mono ex r
    cases d with
    | lst ds' => cases h; exact rep_lst q
    | _ => cases h
  | bw m => obtain ⟨A, o, _⟩ := r; exact own o h
  | ow m => obtain ⟨A, o⟩ := r; exact own o h
  | fr m => obtain ⟨A, o, _⟩ := r; exact own o h
/-- xs != ys, xs == ys where the data are equal; lists of own things too -/
def dNeT (b : Bool) (g : List D → Prop) (c k : Nat) : W → W → (W → Prop) → Prop := fun x y Q => match Vl.itemsT x, Vl.itemsT y with
  | some ds, some es => ds = es ∧ (∀ d ∈ ds, lvD g c k d) ∧ Q (.cl (.bl b))
  | _, _ => False
theorem prs_T {k : Nat} {H' : Hp} : ∀ {ds : List D} {vs ws : List V}, (∀ d ∈ ds, lvD g c k d) → Reps T H' vs ds → Reps T H' ws ds → Prs (DLev T g c k) vs ws H'
  | [], _, _, _, r1, r2 => by cases r1; cases r2; exact Prs.nil
  | d :: ds, _, _, hd, r1, r2 => by
    cases r1 with
    | cons p1 t1 =>
      cases r2 with
      | cons p2 t2 => exact Prs.cons (lev_of (Same.refl _) (hd d List.mem_cons_self) p1 p2) (prs_T (fun d q => hd d (List.mem_cons_of_mem _ q)) t1 t2)
theorem b_neT {k : Nat} : Bin2 T (rNeG (DLev T g c k)) (dNeT false g c k) := by
  intro G F H F' H' x y u w P Q go rx ry h kk
  unfold dNeT at h
  split at h
  · rename_i ds es h1 h2
    obtain ⟨rfl, hl, q⟩ := h
    obtain ⟨a, vs, rfl, ha, ra⟩ := rx.itemsT go.ex h1
    obtain ⟨b, ws, rfl, hb, rb⟩ := ry.itemsT go.ex h2
    refine ⟨⟨a, b, vs, ws, rfl, rfl, ha, hb, prs_T hl ra rb⟩, fun H2 e => kk _ q _ F' H2 (go.trans ⟨e, Same.refl _, fun a o z => e _ _ (go.ex _ _ z), fun _ _ _ => rfl⟩) (.bl false)⟩
  · exact h.elim
theorem b_eqT {k : Nat} : Bin2 T (rEqG (DList (DLev T g c k))) (dNeT true g c k) := by
  intro G F H F' H' x y u w P Q go rx ry h kk
  unfold dNeT at h
  split at h
  · rename_i ds es h1 h2
    obtain ⟨rfl, hl, q⟩ := h
    obtain ⟨a, vs, rfl, ha, ra⟩ := rx.itemsT go.ex h1
    obtain ⟨b, ws, rfl, hb, rb⟩ := ry.itemsT go.ex h2
    refine ⟨⟨a, b, vs, ws, rfl, rfl, ha, hb, prs_T hl ra rb⟩, fun H2 e => kk _ q _ F' H2 (go.trans ⟨e, Same.refl _, fun a o z => e _ _ (go.ex _ _ z), fun _ _ _ => rfl⟩) (.bl true)⟩
  · exact h.elim
end
end Vl
/-! for x in xs[:h]: x[1].append(d), xs an own list of own tuples -/
namespace Vl
open PySem PySem.Spec PyProof.Rows L2
def appT (d : D) : M → M
  | .tp [a, .fl os] => .tp [a, .fl (os ++ [d])]
  | m => m
def appL (d : D) (k : Nat) (ms : List M) : List M := (ms.take k).map (appT d) ++ ms.drop k
theorem appL_get {d : D} {k : Nat} {ms : List M} : (appL d k ms)[k]? = ms[k]? := by
  unfold appL
  by_cases h : k < ms.length
  · rw [List.getElem?_append_right (by simp; omega), List.length_map, List.length_take, List.getElem?_drop]
    congr 1; omega
  · rw [List.getElem?_eq_none_iff.mpr (by simp; omega), List.getElem?_eq_none_iff.mpr (by omega)]
theorem appL_succ {d : D} {k : Nat} {ms : List M} {m : M} (h : ms[k]? = some m) : appL d (k + 1) ms = (appL d k ms).set k (appT d m) := by
  have hl : k < ms.length := (List.getElem?_eq_some_iff.mp h).1
  unfold appL
  rw [List.take_add_one, h, List.drop_eq_getElem_cons hl]
  simp only [Option.toList_some, List.map_append, List.map_cons, List.map_nil]
  rw [List.set_append_right _ _ (by simp; omega)]
  have : k - (List.map (appT d) (ms.take k)).length = 0 := by simp; omega
  rw [this, List.set_cons_zero, List.append_assoc]
  rfl
theorem appL_zero (d : D) (ms : List M) : appL d 0 ms = ms := by unfold appL; simp
def aAppIn (i j : Nat) (hi : AO) (d : D) : AS := fun E δ => match gt δ i with
  | .ow l (.tl ms) => j < δ.length ∧ hi δ fun h => (∀ k m, k < HT.sIx ms.length ms.length h → ms[k]? = some m → ∃ a os, m = .tp [a, .fl os] ∧ os.length < 1000000) ∧ E.nx ((δ.set j .non).set i (.ow l (.tl (appL d (HT.sIx ms.length ms.length h) ms))))
  | _ => False
section
variable {T : Tb} {X : Cx} {G : Gx} {F H : Hp} {σ : L2.St} {δ : List AV}
theorem RepS.non (R : RepS T G F H σ δ) (j : Nat) : RepS T G F H σ (δ.set j .non) := by
  have at_ : ∀ k, gt (δ.set j .non) k = .non ∨ gt (δ.set j .non) k = gt δ k := fun k => by
    unfold gt
    rw [List.getD_eq_getElem?_getD, List.getD_eq_getElem?_getD, List.getElem?_set]
    split
    · split <;> exact .inl rfl
    · exact .inr rfl
  refine ⟨R.ex, R.fr, R.th, R.lh, R.f0, R.fn, by rw [List.length_set]; exact R.len, fun k => ?_, fun k k' l l' m m' v w A B ne e1 e2 => ?_⟩
  · rcases at_ k with e | e
    · rw [e]; trivial
    · rw [e]; exact R.sl k
  · rcases at_ k with e | e
    · rw [e] at e1; cases e1
    · rcases at_ k' with e' | e'
      · rw [e'] at e2; cases e2
      · rw [e] at e1; rw [e'] at e2
        exact R.dj k k' l l' m m' v w A B ne e1 e2
theorem set_gt {a : AV} {i : Nat} (h : gt δ i = a) (hi : i < δ.length) : δ.set i a = δ := by
  apply List.ext_getElem?
  intro k
  rw [List.getElem?_set]
  split
  · rename_i e
    subst e
    unfold gt at h
    rw [List.getD_eq_getElem?_getD, List.getElem?_eq_getElem hi] at h
    rw [List.getElem?_eq_getElem hi, ← h]
    rfl
  · rfl
variable {i j : Nat} {it oe : Expr} {st : Stmt} {hi : AO} {hiE : Option Expr} {xs : AA} {d : D} {tg : Expr} {p2 pos ps : Pos}
theorem s_appIn (hp : PassesOwn (model X.prog X.w) X.A X.env X.xe) (hc : X.calm = true) (hTK : T.K = X.K) (ij : i ≠ j) (hg : PG X tg (gName j)) (hv : PE X it (tVar i)) (hh : PO X hiE (rdO T hi))
    (hb : PS X st (tDrop (tBM X.K "list" rAppend (tOp (rIx X.K) (tVar j) (tC (.int 1))) (rdA T xs)))) (hx : ∀ δ P, P [.cl d] → xs δ P)
    (hs : ∀ x, foldedSetIterable (.Subscript it (.Slice none hiE none p2) ps) X.env x = pure x := by intro _; rfl) :
    PS X (.For tg (.Subscript it (.Slice none hiE none p2) ps) [st] [] pos) (rdS T (aAppIn i j hi d)) := (ps_for hp hc (pi_list (pe_slice sl_list hv po_none hh)) hg (pss_one hb) hs).mono fun D' σ H h => by
  obtain ⟨G, F, δ, E, R, h, k⟩ := h
  unfold aAppIn at h
  split at h
  rotate_left
  · exact h.elim
  rename_i l ms e
  obtain ⟨v, A, hv, o, os⟩ := R.own e
  obtain ⟨p, vs, B, rfl, rfl, hp, hf, pB, t⟩ := own_tl o
  have hml := t.length
  obtain ⟨hjl, h⟩ := h
  have hil : i < δ.length := gt_lt (by rw [e]; simp)
  refine ⟨.ref p, gs_some hv, G, F, δ, _, R, h, fun hlim hw F1 H1 g => ?_⟩
  obtain ⟨hel, hnx⟩ := hw
  refine ⟨p, vs, rfl, hTK ▸ SqL.of (g.h _ _ hp), fun q hq => ?_⟩
  have e0 : HT.sIx vs.length 0 none = 0 := rfl
  have ec : cutV vs none hlim = vs.take (HT.sIx ms.length ms.length hlim) := by
    unfold cutV
    rw [e0, List.drop_zero, Nat.sub_zero, hml]
  rw [ec]
  generalize HT.sIx ms.length ms.length hlim = n0 at *
  refine ⟨q, rfl, ⟨_, SqL.of upd_same⟩, ?_⟩
  have w := walk_list (K := X.K) (a := q) (xs := vs.take n0)
  have gij : ∀ {a : AV}, gt ((δ.set j .non).set i a) i = a := fun {a} => by rw [gt_set (by rw [List.length_set]; exact hil), if_pos rfl]
  have R1 := (R.go (g.lay (o := .lst (vs.take n0)) hq)).non j
  have o1 := o.go (g.lay (o := .lst (vs.take n0)) hq)
  have qA : q ∉ p :: B := fun z => (o.mem q z).1 (g.h.free hq)
  have gj : gt (δ.set j .non) i = .ow l (.tl ms) := by
    rw [gt_set hjl, if_neg (fun z => ij z.symm)]; exact e
  refine for_it w (fun k σ' H' => ∃ F' A', Same F1 F' ∧ RepS T G F' H' σ' ((δ.set j .non).set i (.ow l (.tl (appL d k ms)))) ∧ gs σ' i = some (.ref p) ∧ H' p = some (.lst vs) ∧ H' q = some (.lst (vs.take n0)) ∧ Own T F' H' (.ref p) (.tl (appL d k ms)) A' ∧ q ∉ A')
    ⟨F1, _, Same.refl _, ?_, hv, (upd_ne fun z => qA (by rw [← z]; exact List.mem_cons_self)).trans (g.h _ _ hp), upd_same, by rw [appL_zero]; exact o1, qA⟩ (fun k σ' H' _ ⟨_, _, _, _, _, _, hq', _⟩ => SqL.of hq') ?_ ?_
  · rw [appL_zero, set_gt gj (by rw [List.length_set]; exact hil)]
    exact R1
  · rintro k x σ' H' H2 hk ⟨F', A', sm, R', e1, hp', hq', o', hqA⟩ ⟨rfl, hy⟩
    have hk0 : k < n0 ∧ k < vs.length := by rw [List.length_take] at hk; omega
    rw [List.getElem?_take, if_pos hk0.1] at hy
    obtain ⟨m, hm⟩ : ∃ m, ms[k]? = some m := ⟨_, List.getElem?_eq_getElem (by omega)⟩
    obtain ⟨a0, os', rfl, hol⟩ := hel k m hk0.1 hm
    obtain ⟨p1, vs1, u, B1, ep, hp1, hl1, hu, S1⟩ := sub_tl o' (appL_get.trans hm)
    cases ep
    rw [hp'] at hp1
    cases hp1
    rw [hy] at hu
    cases hu
    obtain ⟨p3, ws, u2, B2, rfl, hp3, hl3, hu2, S2⟩ := sub_tp (j := 1) S1.ow rfl
    have S := S1.trans S2
    obtain ⟨r, zs, rfl, rfl, hr, hfr, rz⟩ := own_fl S2.ow
    have hjl' : j < σ'.length := by rw [← R'.len, List.length_set, List.length_set]; exact hjl
    show tBM X.K "list" rAppend (tOp (rIx X.K) (tVar j) (tC (.int 1))) (rdA T xs) (σ'.set j (some (.ref p3))) H2 _
    have R2 : RepS T G F' H2 (σ'.set j (some (.ref p3))) ((δ.set j .non).set i (.ow l (.tl (appL d k ms)))) := by
      have := R'.put (i := j) (v := .ref p3) (a := .non) trivial fun _ _ z => nomatch z
      rw [List.set_comm _ _ ij, List.set_set] at this
      exact this
    refine ⟨.ref p3, by rw [List.getElem?_set_self hjl'], ?_⟩
    refine .inr (.inl ⟨p3, ws, 1, .ref r, rfl, rfl, SqT.of hp3, ?_, ?_⟩)
    · unfold atI
      have : ixN ws.length 1 = some 1 := by
        rw [hl3]; rfl
      rw [this]
      exact hu2
    refine ⟨.inl ⟨rfl, _, SqL.of hr⟩, G, F', _, fun ws => ws = [.cl d], R2, hx _ _ rfl, fun ws1 hw1 us F3 H3 g3 ra => ?_⟩
    subst hw1
    have e1' : gs (σ'.set j (some (V.ref p3))) i = some (.ref p) := by
      unfold gs
      rw [List.getD_eq_getElem?_getD, List.getElem?_set_ne (fun z => ij z.symm), ← List.getD_eq_getElem?_getD]
      exact e1
    have S3 := S.go g3
    refine m_append G F3 H3 (.ref r) (.fl os') [r] us [.cl d] (fun k' _ => k' = .fl (os' ++ [d])) _ g3.ex S3.ow ra ⟨hol, rfl⟩ fun k' d' hP z H4 B4 ch o4 hB4 rz4 => ?_
    subst hP
    have o3 := o'.go g3
    have R4 := R2.plc g3 gij e1' o3 S3 ch.ex (Same.refl _) (fun _ _ _ _ => rfl) ch.fr ch.th o4 fun a z => .inl (hB4 a z)
    obtain ⟨A5, o5, hA5⟩ := S3.re (fun _ => False) F3 H4 (.fl (os' ++ [d])) B4 (fun _ n => n.elim) (Same.refl _) (fun _ _ _ _ => rfl) ch.fr o4 fun a z => .inl (hB4 a z)
    have em : (appL d k ms).set k (.tp ([a0, .fl os'].set 1 (.fl (os' ++ [d])))) = appL d (k + 1) ms := (appL_succ (d := d) hm).symm
    have hpr : p ≠ r := fun z => by
      obtain ⟨p9, vs9, C, ep9, rfl, hp9, hf9, hn9, t9⟩ := own_tl o'
      cases ep9
      rw [hp'] at hp9
      cases hp9
      obtain ⟨u9, C9, hu9, ou9, h39, _⟩ := t9.get (appL_get.trans hm)
      rw [hy] at hu9
      cases hu9
      cases Own.det S1.ow ou9
      exact hn9 (h39 p (S2.sub p (by rw [z]; exact List.mem_singleton.mpr rfl)))
    refine ⟨F3, A5, sm.trans g3.f, ?_, e1', (ch.fr p (fun z => hpr (List.mem_singleton.mp z)) (by rw [g3.h _ _ hp']; simp)).trans (g3.h _ _ hp'), (ch.fr q (fun z => hqA (S.sub q z)) (by rw [g3.h _ _ hq']; simp)).trans (g3.h _ _ hq'), ?_, fun z => (hA5 q z).elim hqA id⟩
    · unfold setP at R4
      rw [gij] at R4
      have R5 : RepS T G F3 H4 (σ'.set j (some (.ref p3))) (((δ.set j .non).set i (.ow l (.tl (appL d k ms)))).set i (.ow l (.tl ((appL d k ms).set k (.tp ([a0, .fl os'].set 1 (.fl (os' ++ [d])))))))) := R4
      rw [List.set_set] at R5
      rw [← em]
      exact R5
    · rw [← em]
      exact o5
  · rintro σ' H' ⟨F', A', sm, R', e1, hp', hq', o', hqA⟩
    refine k.nx _ hnx F' H' σ' (g.f.trans sm) ?_
    have : appL d (vs.take n0).length ms = appL d n0 ms := by
      rw [List.length_take, hml]
      by_cases z : n0 ≤ ms.length
      · rw [Nat.min_eq_left z]
      · rw [Nat.min_eq_right (by omega)]
        unfold appL
        rw [List.take_of_length_le (Nat.le_refl _), List.take_of_length_le (by omega), List.drop_of_length_le (Nat.le_refl _), List.drop_of_length_le (by omega)]
    rw [this] at R'
    exact R'
end
end Vl
/-! xs.remove(x), a list of texts -/
namespace Vl
open PySem PySem.Spec PyProof.Rows L2
def eqs (k : Str) : Value → Bool
  | .str n _ => n.cps.toList == k.cps.toList
  | _ => false
theorem cps_ne {a b : Str} (h : a ≠ b) : (a.cps.toList == b.cps.toList) = false := by
  rw [beq_eq_false_iff_ne]
  intro z
  have : a.cps = b.cps := Array.toList_inj.mp z
  cases a; cases b
  exact h (by cases this; rfl)
section
variable {X : Cx} {T : Tb}
def rRemS : V → List V → Hp → VK → Prop := fun x xs H Q => ∃ (l : Addr) (ns : List Str) (k : Str) (j : Nat), x = .ref l ∧ xs = [.str k] ∧ H l = some (.lst (ns.map V.str)) ∧ ns[j]? = some k ∧ (∀ m : Nat, m < j → ns[m]? ≠ some k) ∧ Q .non (upd H l (.lst ((ns.eraseIdx j).map V.str)))
theorem erase_mapS : ∀ (l : List Str) (j : Nat), (l.map V.str).eraseIdx j = (l.eraseIdx j).map V.str
  | [], j => by simp
  | a :: r, 0 => by simp
  | a :: r, j + 1 => by
    have ih := erase_mapS r j
    simp [ih]
theorem mt_removeS : MtM X "list.remove" rRemS := by
  intro pins s σ H x xs v us Q I rx rxs h
  obtain ⟨l, ns, k, j, rfl, rfl, hH, hj, hno, q⟩ := h
  cases rx
  obtain ⟨u, rfl, ru⟩ := rxs.one
  obtain ⟨t, rfl⟩ := ru
  obtain ⟨z, its, n, r, hl, e⟩ := I.lstM hH
  have rl := r.length
  rw [List.length_map] at hl z rl
  have hjn : j < ns.length := (List.getElem?_eq_some_iff.mp hj).1
  have hjl : j < its.toArray.size := by rw [List.size_toArray]; omega
  have get : ∀ m (hm : m < ns.length), ∃ tm, its[m]? = some (.str ns[m] tm) := fun m hm => by
    obtain ⟨u, hu, ru⟩ := r.get (i := m) (x := .str ns[m]) (by rw [List.getElem?_map, List.getElem?_eq_getElem hm]; rfl)
    obtain ⟨tm, rfl⟩ := ru
    exact ⟨tm, hu⟩
  have gives : ∀ y ∈ its, MeetsSeq.EqGives y (.str k t) (eqs k y) := fun y hy => by
    obtain ⟨m, hm⟩ := List.mem_iff_getElem?.mp hy
    have hmn : m < ns.length := by have := (List.getElem?_eq_some_iff.mp hm).1; omega
    obtain ⟨tm, h1⟩ := get m hmn
    rw [hm] at h1
    cases h1
    exact SeqRoads2.EqGives.str ns[m] k tm t
  refine call_meets PySem.F.slot_list_remove ⟨_, e, rfl⟩ PySem.F.entry_list_remove (PySem.F.args_list_remove_2 _ _)
    (MeetsSeq.list_remove l its.toArray n (.str k t) (eqs k) (fun y hy => gives y (by simpa using hy)) j hjl ?_ ?_ (by rw [List.size_toArray]; omega)) ⟨e, ?_⟩
  · obtain ⟨tj, hjt⟩ := get j hjn
    obtain ⟨h1, h2⟩ := List.getElem?_eq_some_iff.mp hjt
    have e0 : ns[j] = k := by rw [List.getElem?_eq_getElem hjn] at hj; exact Option.some.inj hj
    have e1 : its.toArray[j] = .str k tj := by rw [← e0]; simpa using h2
    rw [e1]
    exact beq_self_eq_true _
  · intro m hm hmj
    have hmn : m < ns.length := by omega
    obtain ⟨tm, hmt⟩ := get m hmn
    obtain ⟨h1, h2⟩ := List.getElem?_eq_some_iff.mp hmt
    have e1 : its.toArray[m] = .str ns[m] tm := by simpa using h2
    rw [e1]
    exact cps_ne fun e2 => hno m hmj (by rw [List.getElem?_eq_getElem hmn, e2])
  · have rr := r.eraseIdx j
    rw [erase_mapS] at rr
    refine ⟨.non, _, I.lset (its' := its.eraseIdx j) (t' := s.toks) hH e ?_ rr ?_, rfl, q⟩
    · show its.toArray.eraseIdxIfInBounds j = (its.eraseIdx j).toArray
      rw [List.eraseIdxIfInBounds_toArray]
    · have z2 := len_erase ns j
      rw [List.length_map]
      omega
def mRemoveS : FM := fun m ws P => match m, ws with
  | .fl ds, [.cl (.str k)] => ∃ (ns : List Str) (j : Nat), ds = ns.map .str ∧ ns[j]? = some k ∧ (∀ m : Nat, m < j → ns[m]? ≠ some k) ∧ P (.fl ((ns.eraseIdx j).map .str)) .non
  | _, _ => False
theorem reps_strs {F : Hp} : ∀ {vs : List V} {ns : List Str}, Reps T F vs (ns.map D.str) → vs = ns.map V.str
  | _, [], .nil => rfl
  | _, n :: ns, .cons r t => by rw [rep_str r, reps_strs t]; rfl
theorem reps_of_strs {F : Hp} : ∀ ns : List Str, Reps T F (ns.map V.str) (ns.map D.str)
  | [] => .nil
  | n :: ns => .cons (.str n) (reps_of_strs ns)
theorem m_removeS : MutV T rRemS mRemoveS := by
  intro G F H v m A xs ws P Q sm ow ra h k
  unfold mRemoveS at h
  split at h
  · rename_i ds k0
    obtain ⟨p, vs, rfl, rfl, ho, hf, r⟩ := own_fl ow
    obtain ⟨ns, j, rfl, h1, h2, h⟩ := h
    cases reps_strs r
    cases ra with
    | cons r2 t =>
      cases t
      refine ⟨p, ns, k0, j, rfl, by rw [rep_str r2], ho, h1, h2, ?_⟩
      exact k _ _ h _ _ _ (chg_upd sm List.mem_cons_self hf) (.fl upd_same hf (reps_of_strs _)) (fun _ q => q) .non
  · exact h.elim
end
end Vl
/-! Texts: f-strings, join, split, str(n), int(text). -/
namespace Vl
open PySem PySem.Spec PyProof.Rows L2
/-- a part of an f-string -/
def aFmt (e : AE) : AE := fun δ Q => e δ fun w => match w with
  | .cl (.str y) => y.length ≤ 1000000 ∧ Q (.cl (.str y))
  | .cl (.int i) => i.natAbs.log2 < 1920 ∧ Q (.cl (.str (toString i)))
  | _ => False
def aJs : List AE → Str → List AV → (Str → Prop) → Prop
  | [], acc, _, Q => Q acc
  | e :: es, acc, δ, Q => e δ fun w => match w with
    | .cl (.str y) => (acc ++ y).length ≤ 1000000 ∧ aJs es (acc ++ y) δ Q
    | _ => False
/-- f'..' -/
def aFStr (es : List AE) : AE := fun δ Q => aJs es Str.empty δ fun out => Q (.cl (.str out))
def strsC : List D → Option (List Str)
  | [] => some []
  | .str x :: ds => (strsC ds).map (x :: ·)
  | _ => none
/-- sep.join(e) -/
def aJoin (o : AE) (es : AA) : AE := fun δ Q => o δ fun w => match w with
  | .cl (.str a) => es δ fun ws => match ws with
    | [x] => ∃ ys : List Str, lstC x = some (ys.map .str) ∧ (ys.map (·.length)).sum + ys.length * a.length ≤ 1000000 ∧ Q (.cl (.str (Txt.join a ys)))
    | _ => False
  | _ => False
/-- e.split(sep) -/
def aSplit (o : AE) (es : AA) : AE := fun δ Q => o δ fun w => match w with
  | .cl (.str a) => es δ fun ws => match ws with
    | [.cl (.str b)] => (b.length == 0) = false ∧ a.length + 2 ≤ 1000000 ∧ Q (.fr (.fl ((Txt.split a b).map .str)))
    | _ => False
  | _ => False
def rJoin (K : PySem.W.Frag) : V → List V → Hp → VK → Prop := fun x xs H Q => ∃ a p, ∃ ys : List Str, x = .str a ∧ xs = [.ref p] ∧ (SqL K H p (ys.map V.str) ∨ SqT K H p (ys.map V.str)) ∧ (ys.map (·.length)).sum + ys.length * a.length ≤ 16777216 ∧ Q (.str (Txt.join a ys)) H
def rSplit : V → List V → Hp → VK → Prop := fun x xs H Q => ∃ a b, x = .str a ∧ xs = [.str b] ∧ (b.length == 0) = false ∧ a.length + 2 ≤ sizeLine ∧ rNewStrs (Txt.split a b) H Q
section
variable {T : Tb} {X : Cx} {G : Gx} {F H : Hp} {σ : L2.St} {δ : List AV} {e : Expr} {x o : AE} {xs : AA} {pos : Pos}
theorem e_fmt (he : PE X e (rdE T x)) : PE X (.FormattedValue e (-1) none pos) (rdE T (aFmt x)) := (pe_fmt he).mono fun σ H Q h => by
  obtain ⟨G, F, δ, P, R, h, k⟩ := h
  refine ⟨G, F, δ, _, R, h, fun w hw v F1 H1 g r => ?_⟩
  split at hw
  · exact .inl ⟨_, rep_str r, dSz_line hw.1, k _ hw.2 _ F1 H1 g (.str _)⟩
  · exact .inr ⟨_, rep_int r, hw.1, k _ hw.2 _ F1 H1 g (.str _)⟩
  · exact hw.elim
theorem rd_js : ∀ {xs : List AE} {acc : Str} {F H : Hp} {P : Str → Prop} {Q : Str → Hp → Prop}, RepS T G F H σ δ → aJs xs acc δ P → (∀ out, P out → ∀ F' H', Go F H F' H' → Q out H') → tJs (xs.map (rdE T)) acc σ H Q
  | [], acc, F, H, P, Q, R, h, k => k acc h F H (Go.refl R.ex)
  | x :: xs, acc, F, H, P, Q, R, h, k => by
    show rdE T x σ H _
    refine ⟨G, F, δ, _, R, h, fun w hw v F1 H1 g r => ?_⟩
    split at hw
    · exact ⟨_, rep_str r, dSz_line hw.1, rd_js (R.go g) hw.2 fun out ho F2 H2 g2 => k out ho F2 H2 (g.trans g2)⟩
    · exact hw.elim
theorem j_nil : PJ X [] (([] : List AE).map (rdE T)) := .nil
theorem j_cons {es : List Expr} {xs : List AE} (he : PE X e (rdE T x)) (hr : PJ X es (xs.map (rdE T))) : PJ X (e :: es) ((x :: xs).map (rdE T)) := .cons he hr
theorem e_fstr {v1 v2 : Expr} {rest : List Expr} {xs : List AE} (h : PJ X (v1 :: v2 :: rest) (xs.map (rdE T))) : PE X (.JoinedStr (v1 :: v2 :: rest) pos) (rdE T (aFStr xs)) := (pe_joined h).mono fun σ H Q h => by
  obtain ⟨G, F, δ, P, R, h, k⟩ := h
  exact rd_js R h fun out ho F2 H2 g2 => k _ ho _ F2 H2 g2 (.str _)
theorem e_fstr1 {v : Expr} (he : PE X v (rdE T x)) : PE X (.JoinedStr [v] pos) (rdE T x) := pe_joined1 he
theorem e_join (hTK : T.K = X.K) (h : PE X e (tBM X.K "str" (rJoin X.K) (rdE T o) (rdA T xs))) : PE X e (rdE T (aJoin o xs)) := h.mono fun σ H Q h => by
  obtain ⟨G, F, δ, P, R, h, k⟩ := h
  refine ⟨G, F, δ, _, R, h, fun w hw v F1 H1 g r => ?_⟩
  split at hw
  · rename_i a
    cases rep_str r
    refine ⟨rfl, G, F1, δ, _, R.go g, hw, fun ws hw vs F2 H2 g2 r2 => ?_⟩
    split at hw
    · rename_i x
      obtain ⟨ys, hy, l, q⟩ := hw
      cases r2 with
      | cons r3 t =>
        cases t
        obtain ⟨p, us, rfl, hp, rr⟩ := (RepA.toW (Hs := H2) r3).lst g2.ex hy
        rw [reps_strs rr, hTK] at hp
        exact ⟨a, p, ys, rfl, rfl, .inl hp, by omega, k _ q _ F2 H2 (g.trans g2) (.str _)⟩
    · exact hw.elim
  · exact hw.elim
theorem e_split (h : PE X e (tBM X.K "str" rSplit (rdE T o) (rdA T xs))) : PE X e (rdE T (aSplit o xs)) := h.mono fun σ H Q h => by
  obtain ⟨G, F, δ, P, R, h, k⟩ := h
  refine ⟨G, F, δ, _, R, h, fun w hw v F1 H1 g r => ?_⟩
  split at hw
  · rename_i a
    cases rep_str r
    refine ⟨rfl, G, F1, δ, _, R.go g, hw, fun ws hw vs F2 H2 g2 r2 => ?_⟩
    split at hw
    · rename_i b
      obtain ⟨hb, l, q⟩ := hw
      cases r2 with
      | cons r3 t =>
        cases t
        refine ⟨a, b, rfl, by rw [rep_str r3], hb, dSz_line l, fun p hp => ?_⟩
        exact new_list (g.trans g2) (reps_of_strs _) q k hp
    · exact hw.elim
  · exact hw.elim
end
/-! ### str(n), int(text) -/
def fStrI : List W → (W → Prop) → Prop := one fun w Q => match w with
  | .cl (.int i) => i.natAbs.log2 < 1920 ∧ Q (.cl (.str (toString i)))
  | _ => False
def fIntS : List W → (W → Prop) → Prop := one fun w Q => match w with
  | .cl (.str a) => ∃ n, PySem.intText? a = some n ∧ a.length ≤ 640 ∧ Q (.cl (.int n))
  | _ => False
theorem c_strI {T : Tb} : CallV T (fun xs H Q => ∃ i, xs = [.int i] ∧ i.natAbs.log2 < 1920 ∧ Q (.str (toString i)) H) fStrI := by
  intro G F H F' H' xs ws P Q g r h k
  obtain ⟨x, w, rfl, rfl, rx, h⟩ := one_inv h r
  split at h
  · exact ⟨_, by rw [rep_int rx], h.1, k _ h.2 _ _ _ g (.str _)⟩
  · exact h.elim
theorem c_intS {T : Tb} : CallV T (fun xs H Q => ∃ a n, xs = [.str a] ∧ PySem.intText? a = some n ∧ a.length ≤ 640 ∧ Q (.int n) H) fIntS := by
  intro G F H F' H' xs ws P Q g r h k
  obtain ⟨x, w, rfl, rfl, rx, h⟩ := one_inv h r
  split at h
  · obtain ⟨n, h1, h2, q⟩ := h
    exact ⟨_, n, by rw [rep_str rx], h1, h2, k _ q _ _ _ g (.int _)⟩
  · exact h.elim
/-! ### the signs of a text; c in a text; x[i] of a text; what is never reached -/
def signsD (z : Str) : List D := z.cps.toList.map fun c => .str ⟨#[c]⟩
def iStrA (a : AE) : AI := fun δ Q => a δ fun w => match w with
  | .cl (.str z) => Q (signsD z)
  | _ => False
def dInC (neg : Bool) : W → W → (W → Prop) → Prop := fun x y Q => match x, y with
  | .cl (.str a), .cl (.str z) => ∃ c : Nat, a = ⟨#[c]⟩ ∧ Q (.cl (.bl (if neg then !decide (c ∈ z.cps.toList) else decide (c ∈ z.cps.toList))))
  | _, _ => False
def dIxC : W → W → (W → Prop) → Prop := fun x y Q => match x, y with
  | .cl (.str z), .cl (.int i) => ∃ c : Nat, z.length ≤ 1000000 ∧ atI z.cps.toList i = some c ∧ Q (.cl (.str ⟨#[c]⟩))
  | _, _ => False
def aNever : AS := fun _ _ => False
def rNotInC : R2 := fun x y H Q => ∃ (c : Nat) (z : Str), x = .str ⟨#[c]⟩ ∧ y = .str z ∧ Q (.bl (!decide (c ∈ z.cps.toList))) H
section
variable {T : Tb} {X : Cx} {e tg : Expr} {x : AE} {st : Stmt}
theorem i_strA (he : PE X e (rdE T x)) : PI X tg e (rdI T (iStrA x)) := (pi_str he).mono fun σ H Q h => by
  obtain ⟨G, F, δ, P, R, h, k⟩ := h
  refine ⟨G, F, δ, _, R, h, fun w hw v F1 H1 g r => ?_⟩
  split at hw
  · rename_i z
    refine ⟨z, rep_str r, k _ hw _ F1 H1 g ?_⟩
    have hl : (signsD z).length = z.cps.size := by unfold signsD; rw [List.length_map, Array.length_toList]
    refine ⟨_, _, hl ▸ walk_str, fun _ _ _ _ _ _ => trivial, fun i H x H' hi _ y => ⟨y.1, ?_⟩⟩
    obtain ⟨c, hc, rfl⟩ := y.2
    refine ⟨.str ⟨#[c]⟩, ?_, fun F' _ _ => .str _⟩
    unfold signsD
    rw [List.getElem?_map, Array.getElem?_toList, hc]
    rfl
  · exact hw.elim
theorem b_notInC : Bin2 T rNotInC (dInC true) := by
  intro G F H F' H' x y u w P Q go rx ry h k
  unfold dInC at h
  split at h
  · obtain ⟨c, rfl, q⟩ := h
    exact ⟨c, _, rep_str rx, rep_str ry, k _ q _ _ _ go (.bl _)⟩
  · exact h.elim
theorem op_notInC : OpR X (compareOp .NotIn) rNotInC := op_notIn_sign
theorem b_ixC : Bin2 T rIxS dIxC := by
  intro G F H F' H' x y u w P Q go rx ry h k
  unfold dIxC at h
  split at h
  · obtain ⟨c, l, h1, q⟩ := h
    exact ⟨_, _, c, rep_str rx, rep_int ry, dSz_line l, h1, k _ q _ _ _ go (.str _)⟩
  · exact h.elim
theorem e_ixC {a b : Expr} {y : AE} {pos : Pos} (ha : PE X a (rdE T x)) (hb : PE X b (rdE T y)) (hs : PlainIx b) : PE X (.Subscript a b pos) (rdE T (aBin dIxC x y)) := (pe_ix ix_str ha hb hs).mono fun _ _ _ h => rd_bin b_ixC h
theorem s_never : PS X st (rdS T aNever) := ⟨fun pins s σ H D I h => by
  obtain ⟨G, F, δ, E, R, h, k⟩ := h
  exact h.elim⟩
end
/-! ### x op y, x with an effect -/
def aBinXL (f : W → W → (W → Prop) → Prop) (a : AX) (b : AE) : AX := fun δ Q => a δ fun w δ' => match w with
  | .cl d => b δ' fun z => f (.cl d) z fun r => Q r δ'
  | _ => False
section
variable {T : Tb} {X : Cx} {xx : AX} {y : AE} {pos : Pos} {σ : L2.St} {H : Hp}
theorem rd_binXL {r : R2} {f : W → W → (W → Prop) → Prop} (hf : Bin2 T r f) {Q : VK} (h : rdX T (aBinXL f xx y) σ H Q) : tOp r (rdX T xx) (rdE T y) σ H Q := by
  obtain ⟨G, F, δ, P, R, h, k⟩ := h
  refine ⟨G, F, δ, _, R, h, fun w δ' hw v F1 H1 sF R1 r1 ap => ?_⟩
  split at hw
  · rename_i d
    exact ⟨G, F1, δ', _, R1, hw, fun z hz u F2 H2 g r2 => hf G F1 H1 F2 H2 v u (.cl d) z _ Q g (Rep.mono g.f r1) r2 hz fun y hy v' F4 H4 g4 r4 => k y δ' hy v' F4 H4 (sF.trans g4.f) (R1.go g4) (R1.freshW r4) (R1.apartW g4 r4)⟩
  · exact hw.elim
theorem x_cmpL {op : CmpOp} {a b : Expr} {r : R2} {f : W → W → (W → Prop) → Prop} (ho : OpR X (compareOp op) r) (hf : Bin2 T r f) (ha : PE X a (rdX T xx)) (hb : PE X b (rdE T y)) (hm : behindInMarks op b = false) : PE X (.Compare a [op] [b] pos) (rdX T (aBinXL f xx y)) :=
  (pe_cmpR ho ha hb hm).mono fun _ _ _ h => rd_binXL hf h
theorem tx_cmpL {op : CmpOp} {a b : Expr} {r : R2} {f : W → W → (W → Prop) → Prop} (ho : OpR X (compareOp op) r) (hf : Bin2 T r f) (ha : PE X a (rdX T xx)) (hb : PE X b (rdE T y)) (hm : behindInMarks op b = false) : PT X (.Compare a [op] [b] pos) (rdTX T (aBX (aBinXL f xx y))) :=
  (pt_cmpR ho ha hb hm).mono fun σ H Q h => by
    obtain ⟨G, F, δ, P, R, h, k⟩ := h
    refine rd_binXL hf ⟨G, F, δ, _, R, h, fun w δ' hw v F1 H1 sF R' r ap => ?_⟩
    split at hw
    · exact ⟨_, rep_bl r, k _ _ hw _ _ sF R'⟩
    · exact hw.elim
end
end Vl
/-! Numbers as words. -/
namespace Vl
open PySem PySem.Spec PyProof.Rows L2
def numS (n : Int) : Str := Str.ofString (toString n)
theorem numS_tl {n : Int} (h : 0 ≤ n) : (numS n).cps.toList = TL.numL n.toNat := by
  obtain ⟨m, rfl⟩ := Int.eq_ofNat_of_zero_le h
  exact TL.tl_num m
theorem numS_len {n : Int} (h : 0 ≤ n) (h1 : n < 1000000000) : (numS n).length ≤ 9 := by
  have e : (numS n).length = (numS n).cps.toList.length := by
    show (numS n).cps.size = _
    rw [Array.length_toList]
  rw [e, numS_tl h]
  exact TL.numL_len (by decide) (by omega)
theorem numS_ne {n : Int} (h : 0 ≤ n) : (numS n).cps.toList ≠ [] := by
  rw [numS_tl h]
  exact TL.numL_ne _
/-- no leading zero -/
theorem numL_head : ∀ (n : Nat), 10 ≤ n → ∃ c r, TL.numL n = c :: r ∧ c ≠ 48 := by
  intro n
  induction n using Nat.strongRecOn with
  | _ n ih =>
    intro h
    rw [TL.numL_step h]
    by_cases q : n / 10 < 10
    · rw [TL.numL_lt q]
      exact ⟨_, _, rfl, by omega⟩
    · obtain ⟨c, r, e, hc⟩ := ih (n / 10) (by omega) (by omega)
      rw [e]
      exact ⟨c, _, rfl, hc⟩
theorem numS_head {n : Int} (h : 0 ≤ n) (h1 : 1 < (numS n).length) : ∃ c r, (numS n).cps.toList = c :: r ∧ c ≠ 48 := by
  have e : (numS n).length = (numS n).cps.toList.length := by
    show (numS n).cps.size = _
    rw [Array.length_toList]
  rw [e, numS_tl h] at h1
  rw [numS_tl h]
  by_cases q : n.toNat < 10
  · rw [TL.numL_lt q] at h1
    simp at h1
  · exact numL_head _ (by omega)
theorem numS_digit {n : Int} (h : 0 ≤ n) : ∀ c ∈ (numS n).cps.toList, 48 ≤ c ∧ c ≤ 57 := by
  rw [numS_tl h]
  exact TL.numL_digits _
theorem numS_int {n : Int} (h : 0 ≤ n) (h1 : n < 1000000000) : intText? (numS n) = some n := by
  obtain ⟨m, rfl⟩ := Int.eq_ofNat_of_zero_le h
  exact TL.int_num (Nat.le_trans (TL.numL_len (k := 9) (by decide) (by omega)) (by decide))
theorem numS_free {n : Int} (h : 0 ≤ n) {s : Nat} (hs : s < 48 ∨ 57 < s) : s ∉ (numS n).cps.toList := by
  rw [numS_tl h]
  exact TL.numL_free hs
end Vl
/-! Dicts with nested keys: q in d, d[q] = True, del d[q], list(d), {}. -/
namespace Vl
open PySem PySem.Spec PyProof.Rows L2
def ndW : W → Option (List Q4)
  | .cl (.nd ks) => some ks
  | .bw (.nd ks) => some ks
  | .ow (.nd ks) => some ks
  | _ => none
def qD : D → Option Q4
  | .tup [.tup [.int a, .int i], .tup [.int b, .int j]] => some ((a, i), (b, j))
  | _ => none
def qO (w : W) : Option Q4 := (clW w).bind qD
theorem qD_inv {d : D} {q : Q4} (h : qD d = some q) : d = nkD q := by
  unfold qD at h
  split at h
  · cases h; rfl
  · cases h
def dInN (neg : Bool) : W → W → (W → Prop) → Prop := fun kw w Q => match kw, ndW w with
  | .cl d, some ks => match qD d with
    | some q => Q (.cl (.bl (if neg then !decide (q ∈ ks) else decide (q ∈ ks))))
    | none => False
  | _, _ => False
def aNPut (pl : AP) (ky e : AE) : AS := fun E δ => e δ fun w => pl δ fun i c k => ky δ fun z => match w, k, z with
  | .cl (.bl true), .nd ks, .cl d => match qD d with
    | some q => (q ∉ ks ∧ ks.length < 1000000) ∧ E.nx (setP δ i (c (.nd (ks ++ [q]))))
    | none => False
  | _, _, _ => False
def delQ (ks : List Q4) (q : Q4) : List Q4 := ks.filter fun x => decide (x ≠ q)
def aNDel (pl : AP) (ky : AE) : AS := fun E δ => pl δ fun i c k => ky δ fun z => match k, z with
  | .nd ks, .cl d => match qD d with
    | some q => q ∈ ks ∧ E.nx (setP δ i (c (.nd (delQ ks q))))
    | none => False
  | _, _ => False
def aDNewN : AE := fun _ Q => Q (.fr (.nd []))
def fListN : List W → (W → Prop) → Prop := one fun w Q => match ndW w with
  | some ks => Q (.fr (.fl (ks.map nkD)))
  | none => False
section
variable {T : Tb} {G : Gx} {Hs F H F' H' : Hp} {v : V} {w : W} {ks : List Q4} {q : Q4} {b : Addr} {xs : List (Q4 × Addr)}
theorem keyAt_of (e : Same F H) (r : Rep T F (.ref b) (nkD q)) : KeyAt H q b := by
  obtain ⟨a, vs, hb, h0, rr⟩ := rep_tup r
  cases hb
  cases rr with
  | cons r1 rr =>
    cases rr with
    | cons r2 rr =>
      cases rr
      obtain ⟨b1, vs1, rfl, h1, s1⟩ := rep_tup r1
      obtain ⟨b2, vs2, rfl, h2, s2⟩ := rep_tup r2
      have e1 := reps_ints (ns := [q.1.1, q.1.2]) s1
      have e2 := reps_ints (ns := [q.2.1, q.2.2]) s2
      subst e1 e2
      exact ⟨b1, b2, e _ _ h0, e _ _ h1, e _ _ h2⟩
theorem keysAt : ∀ {xs : List (Q4 × Addr)}, Same F H → Reps T F (xs.map fun x => V.ref x.2) (xs.map fun x => nkD x.1) → ∀ x ∈ xs, KeyAt H x.1 x.2
  | [], _, _ => fun x h => nomatch h
  | y :: ys, e, r => fun x h => by
    cases r with
    | cons r1 t =>
      rcases List.mem_cons.mp h with z | z
      · rw [z]; exact keyAt_of e r1
      · exact keysAt e t x z
theorem reps_filter (p : Q4 × Addr → Bool) : ∀ {xs : List (Q4 × Addr)}, Reps T F (xs.map fun x => V.ref x.2) (xs.map fun x => nkD x.1) → Reps T F ((xs.filter p).map fun x => V.ref x.2) ((xs.filter p).map fun x => nkD x.1)
  | [], _ => .nil
  | y :: ys, r => by
    cases r with
    | cons r1 t =>
      rw [List.filter_cons]
      split
      · exact .cons r1 (reps_filter p t)
      · exact reps_filter p t
theorem RepW.nd (e : Same F H) (h : RepW T G Hs F H v w) (k : ndW w = some ks) : ∃ p xs, v = .ref p ∧ ks = xs.map (·.1) ∧ NDict T.pr T.wd H p xs ∧ Reps T F (xs.map fun x => V.ref x.2) (xs.map fun x => nkD x.1) := by
  unfold ndW at k
  split at k
  · cases k
    cases h with
    | nd q h r => exact ⟨_, _, rfl, q, ⟨e _ _ h, keysAt e r⟩, r⟩
  · cases k
    obtain ⟨A, o, _⟩ := h
    obtain ⟨p, xs, rfl, _, q, h, _, r⟩ := own_nd o
    exact ⟨_, _, rfl, q, ⟨h, keysAt e r⟩, r⟩
  · cases k
    obtain ⟨A, o⟩ := h
    obtain ⟨p, xs, rfl, _, q, h, _, r⟩ := own_nd o
    exact ⟨_, _, rfl, q, ⟨h, keysAt e r⟩, r⟩
  · cases k
theorem b_inN {neg : Bool} : Bin2 T (rInN T.pr T.wd neg) (dInN neg) := by
  intro G F H F' H' x y u w P Q go rx ry h k
  unfold dInN at h
  split at h
  · rename_i d ks hw
    split at h
    · rename_i q hq
      obtain ⟨p, xs, rfl, rfl, nd, r⟩ := ry.nd go.ex hw
      have rx : Rep T F' x d := rx
      rw [qD_inv hq] at rx
      obtain ⟨b, vs, rfl, _, _⟩ := rep_tup (show Rep T F' x (.tup _) from rx)
      exact ⟨b, p, q, xs, rfl, rfl, nd, keyAt_of go.ex rx, k _ h _ _ _ go (.bl _)⟩
    · exact h.elim
  · exact h.elim
variable {X : Cx} {o ki e : Expr} {pl : AP} {kk x : AE} {pos pos' tpos : Pos}
theorem s_nput (hP : T.pr = X.prog) (hw0 : T.wd = X.w) (hu : X.A.units + 64 < cLine) (ho : PE X o (rdP T pl)) (hi : PE X ki (rdE T kk)) (hv : PE X e (rdE T x)) (hs : swapsWith e (some (.Subscript o ki pos')) pos.line X.env = pure false := by rfl) :
    PS X (.Assign [.Subscript o ki pos'] e pos) (rdS T (aNPut pl kk x)) := (ps_nput hu ho hi hv hs).mono fun D' σ H h => by
  obtain ⟨G, F, δ, E, R, h, k⟩ := h
  refine ⟨G, F, δ, _, R, h, fun w hw y F1 H1 g r1 => ?_⟩
  refine ⟨G, F1, δ, _, R.go g, hw, fun i c kt hw2 F2 H2 g2 l m v A u B e1 e2 ow S => ?_⟩
  refine ⟨G, F2, δ, _, R.go (g.trans g2), hw2, fun z hz kv F3 H3 g3 r3 => ?_⟩
  clear hw hw2
  split at hz
  · rename_i ks d
    split at hz
    · rename_i q hq
      obtain ⟨⟨hn, hl⟩, hz⟩ := hz
      have gg := (g.trans g2).trans g3
      have S3 := S.go g3
      have R3 := R.go gg
      obtain ⟨p, xs, rfl, rfl, rfl, hp, hf, rr⟩ := own_nd S3.ow
      have rk : Rep T F3 kv d := r3
      rw [qD_inv hq] at rk
      obtain ⟨b, vs, rfl, _, _⟩ := rep_tup (show Rep T F3 kv (.tup _) from rk)
      have ex := R3.ex
      refine ⟨p, b, q, xs, rep_bl r1, rfl, rfl, ⟨hP ▸ hw0 ▸ hp, keysAt ex rr⟩, keyAt_of ex rk, hn, by simpa using hl, ?_⟩
      have e3 : DNO X.prog X.w p (xs ++ [(q, b)]) = DNO T.pr T.wd p (xs ++ [(q, b)]) := by rw [hP, hw0]
      rw [e3]
      have ch : Chg F3 H3 [p] (upd H3 p (DNO T.pr T.wd p (xs ++ [(q, b)]))) := chg_upd ex List.mem_cons_self hf
      refine k.nx _ hz F3 _ σ gg.f (R.plc gg e1 e2 (ow.go g3) S3 ch.ex (Same.refl _) (fun _ _ _ _ => rfl) ch.fr ch.th (.nd (xs := xs ++ [(q, b)]) ?_ upd_same hf ?_) fun a q => .inl q)
      · rw [List.map_append]; rfl
      · rw [List.map_append, List.map_append]
        exact rr.append (.cons rk .nil)
    · exact hz.elim
  · exact hz.elim
theorem s_ndel (hP : T.pr = X.prog) (hw0 : T.wd = X.w) (hu : X.A.units + 64 < cLine) (ho : PE X o (rdP T pl)) (hi : PE X ki (rdE T kk)) :
    PS X (.Delete [.Subscript o ki tpos] pos) (rdS T (aNDel pl kk)) := (ps_ndel hu ho hi).mono fun D' σ H h => by
  obtain ⟨G, F, δ, E, R, h, k⟩ := h
  refine ⟨G, F, δ, _, R, h, fun i c kt hw2 F2 H2 g2 l m v A u B e1 e2 ow S => ?_⟩
  refine ⟨G, F2, δ, _, R.go g2, hw2, fun z hz kv F3 H3 g3 r3 => ?_⟩
  clear hw2
  split at hz
  · rename_i ks d
    split at hz
    · rename_i q hq
      obtain ⟨hn, hz⟩ := hz
      have gg := g2.trans g3
      have S3 := S.go g3
      have R3 := R.go gg
      obtain ⟨p, xs, rfl, rfl, rfl, hp, hf, rr⟩ := own_nd S3.ow
      have rk : Rep T F3 kv d := r3
      rw [qD_inv hq] at rk
      obtain ⟨b, vs, rfl, _, _⟩ := rep_tup (show Rep T F3 kv (.tup _) from rk)
      have ex := R3.ex
      refine ⟨p, b, q, xs, rfl, rfl, ⟨hP ▸ hw0 ▸ hp, keysAt ex rr⟩, keyAt_of ex rk, hn, ?_⟩
      have e3 : DNO X.prog X.w p (xs.filter fun x => decide (x.1 ≠ q)) = DNO T.pr T.wd p (xs.filter fun x => decide (x.1 ≠ q)) := by rw [hP, hw0]
      rw [e3]
      have ch : Chg F3 H3 [p] (upd H3 p (DNO T.pr T.wd p (xs.filter fun x => decide (x.1 ≠ q)))) := chg_upd ex List.mem_cons_self hf
      refine k.nx _ hz F3 _ σ gg.f (R.plc gg e1 e2 (ow.go g3) S3 ch.ex (Same.refl _) (fun _ _ _ _ => rfl) ch.fr ch.th (.nd (xs := xs.filter fun x => decide (x.1 ≠ q)) ?_ upd_same hf (reps_filter _ rr)) fun a q => .inl q)
      unfold delQ
      rw [List.filter_map]
      rfl
    · exact hz.elim
  · exact hz.elim
theorem e_dnewN (hP : T.pr = X.prog) (hw0 : T.wd = X.w) : PE X (.Dict [] [] pos) (rdE T aDNewN) := pe_dnewN.mono fun σ H Q h => by
  obtain ⟨G, F, δ, P, R, h, k⟩ := h
  intro p hp
  rw [← hP, ← hw0]
  exact k _ h _ F _ ((Go.refl R.ex).lay hp) ⟨[p], .nd (xs := []) rfl upd_same (R.ex.free hp) .nil, fun a q => by rw [List.mem_singleton.mp q]; exact hp⟩
theorem c_listN (hP : T.pr = X.prog) (hw0 : T.wd = X.w) : CallV T (fun xs H Q => ∃ d ys, xs = [V.ref d] ∧ NDict X.prog X.w H d ys ∧ ∀ p, H p = none → Q (.ref p) (upd H p (.lst (ys.map fun y => V.ref y.2)))) fListN := by
  intro G F H F' H' xs ws P Q g r h k
  obtain ⟨x, w, rfl, rfl, rx, h⟩ := one_inv h r
  split at h
  · rename_i ks hw
    obtain ⟨p, ys, rfl, rfl, nd, rr⟩ := rx.nd g.ex hw
    refine ⟨p, ys, rfl, hP ▸ hw0 ▸ nd, fun a ha => ?_⟩
    refine new_list g (ds := ys.map fun y => nkD y.1) rr ?_ k ha
    rw [List.map_map] at h
    exact h
  · exact h.elim
end
/-! ### {k: v} with a tuple as key -/
def tDispT (tk tv : TE) : TE := fun σ H Q => ∀ p, H p = none → tk σ (upd H p (.dT [])) fun x H1 => tv σ H1 fun y H2 => H2 p = some (.dT []) ∧ ∃ b kk, x = .ref b ∧ H2 b = some (.tup (kk.map kV)) ∧ Q (.ref p) (upd H2 p (.dT [(kk, y)]))
theorem pe_dispT {X : Cx} {pos : Pos} {k v : Expr} {tk tv : TE} (hu : X.A.units + 64 < cLine) (hk : PE X k tk) (hv : PE X v tv) : PE X (.Dict [some k] [v] pos) (tDispT tk tv) := by
  refine ⟨fun pins s σ H Q I q => ?_⟩
  have hn := I.hok.fresh (Nat.le_refl s.heap.objs.size)
  have I1 := I.laid (a := s.heap.objs.size) (o := .dT []) (h' := s.heap.push { cls := .type "dict", data := .dict #[] }) (t' := s.toks) (fun _ _ q => Heap.get?_push_of_some _ q) (Nat.le_refl _) (dt_empty s.heap I.big)
  refine wpAny_Dict_any rfl rfl (fun z => nomatch z) (by show 1 ≤ 15; decide) ?_
  refine pairTrees_cons_walk (thn (hk.run pins _ σ _ _ I1 (q _ hn)) fun u s1 ⟨x, H1, I1, rx, q1⟩ => thn (hv.run pins s1 σ H1 _ I1 q1) fun w2 s2 ⟨y, H2, I2, ry, hp, b, kk, ex, hb, q2⟩ => ?_)
  subst ex
  cases rx
  refine pairTrees_nil_walk ?_
  obtain ⟨z, hd, xs, rel, dd⟩ := dt_of I2.hok hp
  cases rel
  show wpAny _ _ (forIn [_] _ _) _ _ _
  rw [List.forIn_cons]
  refine wpAny_bind (wpAny_bind (wpAny_dictSet_heap (hsz := Nat.zero_le _) (show (tupleKind (mixKind X.prog X.w)).room X.A from (by show X.A.units < cLine; omega)) (key_of I2.hok hb) dd fun h' dd' sb => ?_))
  refine wpAny_pure (wpAny_pure ?_)
  obtain ⟨qo, es, ep, hq, h2, h3, h4, _, h5⟩ := dd'
  refine ⟨.ref s.heap.objs.size, _, d_write (ob := .dT [(kk, y)]) I2 (by rw [hp]; exact True.intro) sb ⟨qo, hq⟩ (show _ ≤ sizeLine ∧ _ from ⟨by show 1 ≤ sizeLine; decide, hd, _, .cons ⟨rfl, ?_, ry⟩ .nil, qo, es, ep, hq, h2, h3, h4, h5⟩), rfl, q2⟩
  rw [upd_ne (ne_of hb hp (fun z => nomatch z))]
  exact hb
def aDispT (ky e : AE) : AE := fun δ Q => ky δ fun kw => e δ fun vw => match kw, clW vw with
  | .cl kd, some d => match keyO true kd with
    | some key => Q (.fr (.fd true [key] [d]))
    | none => False
  | _, _ => False
/-- (x, y), y with an effect -/
def aTupX (a : AE) (b : AX) : AX := fun δ Q => a δ fun u => b δ fun w δ' => match u, clW w with
  | .cl x, some y => Q (.cl (.tup [x, y])) δ'
  | _, _ => False
section
variable {T : Tb} {X : Cx} {k v : Expr} {kk x : AE} {yy : AX} {pos : Pos}
theorem e_dispT (hu : X.A.units + 64 < cLine) (hk : PE X k (rdE T kk)) (hv : PE X v (rdE T x)) : PE X (.Dict [some k] [v] pos) (rdE T (aDispT kk x)) := (pe_dispT hu hk hv).mono fun σ H Q h => by
  obtain ⟨G, F, δ, P, R, h, k⟩ := h
  intro p hp
  have g0 : Go F H F (upd H p (.dT [])) := (Go.refl R.ex).lay hp
  refine ⟨G, F, δ, _, R.go g0, h, fun kw hkw x F1 H1 g1 r1 => ?_⟩
  refine ⟨G, F1, δ, _, (R.go g0).go g1, hkw, fun vw hvw y F2 H2 g2 r2 => ?_⟩
  split at hvw
  · rename_i kd d hd
    split at hvw
    · rename_i key hkey
      obtain ⟨F3, g3, rd⟩ := clW_rep g2 r2 hd
      have gg := g1.trans g3
      have hp2 : H2 p = some (.dT []) := gg.h _ _ upd_same
      have rk : Rep T F3 x kd := Rep.mono g3.f r1
      have fp : F3 p = none := by rw [gg.n p (by rw [upd_same]; simp) (nt_of upd_same)]; exact R.ex.free hp
      unfold keyO at hkey
      split at hkey
      · obtain ⟨b, vs', rfl, hb, rr⟩ := rep_tup rk
        have ev := keysF_rep hkey rr
        subst ev
        refine ⟨hp2, b, key, rfl, gg.ex _ _ hb, k _ hvw _ F3 _ ((g0.trans gg).side hp fp) ⟨[p], .fd upd_same fp ⟨List.nodup_cons.mpr ⟨List.not_mem_nil, List.nodup_nil⟩, [(key, y)], rfl, rfl, rfl⟩ (.cons rd .nil), fun a q => ?_⟩⟩
        rw [List.mem_singleton.mp q]; exact hp
      · cases hkey
      · contradiction
    · exact hvw.elim
  · exact hvw.elim
theorem x_tup2 {x1} {a b : Expr} (ha : PE X a (rdE T x)) (hb : PE X b (rdX T yy)) (hs1 : starEach [a, b] X.env = (false, eval a X.env) :: starEach [b] X.env := by rfl) (hs2 : starEach [b] X.env = (false, eval b X.env) :: starEach [] X.env := by rfl) :
    PE X (.Tuple [a, b] x1 pos) (rdX T (aTupX x yy)) := (pe_tup (pa_cons ha (pa_cons hb pa_nil hs2) hs1)).mono fun σ H Q h => by
  obtain ⟨G, F, δ, P, R, h, k⟩ := h
  refine ⟨G, F, δ, _, R, h, fun u hu v F1 H1 g r => ?_⟩
  refine ⟨G, F1, δ, _, R.go g, hu, fun w δ' hw y F2 H2 sF R2 r2 ap => ?_⟩
  split at hw
  · rename_i d e hd
    obtain ⟨F3, s3, R3, rd⟩ := R2.clean r2 ap hd
    have r1 : Rep T F3 v d := (show Rep T F1 v d from r).mono (sF.trans s3)
    refine ⟨by show 2 ≤ sizeLine; decide, fun p hp => ?_⟩
    have gn : Go F3 H2 (upd F3 p (.tup [v, y])) (upd H2 p (.tup [v, y])) := (Go.refl R3.ex).new hp
    have su : Same F3 (upd F3 p (.tup [v, y])) := Same.updN (R3.ex.free hp)
    exact k _ _ hw _ _ _ ((g.f.trans (sF.trans s3)).trans su) (R3.go gn) (.tup upd_same (.cons (r1.mono su) (.cons (rd.mono su) .nil))) fun _ _ _ _ _ _ _ e => nomatch e
  · exact hw.elim
end
end Vl
/-! min(xs); x in t, t a tuple. -/
namespace Vl
open PySem PySem.Spec PyProof.Rows L2
def fMin1 : List W → (W → Prop) → Prop := one fun w Q => ∃ ns : List Int, lstC w = some (ns.map .int) ∧ 0 < ns.length ∧ ∀ m, m ∈ ns → (∀ y ∈ ns, m ≤ y) → Q (.cl (.int m))
theorem c_min1 {T : Tb} : CallV T (rMin T.K) fMin1 := by
  intro G F H F' H' xs ws P Q g r h k
  obtain ⟨x, w, rfl, rfl, rx, h⟩ := one_inv h r
  obtain ⟨ns, es, hne, q⟩ := h
  obtain ⟨p, vs, rfl, hs, rr⟩ := rx.lst g.ex es
  rw [reps_ints rr] at hs
  exact ⟨p, ns, rfl, hs, hne, fun m h1 h2 => k _ (q m h1 h2) _ _ _ g (.int _)⟩
def rInT (K : PySem.W.Frag) : R2 := fun x y H Q => ∃ d ds, Dp K H x d ∧ Dp K H y (.tuple ds) ∧ SeqAt.shaped d = true ∧ SeqAt.shaped (.tuple ds) = true ∧ Q (.bl (ds.any fun z => PyData.eqv z d)) H
theorem op_inT {X : Cx} (hu : X.A.units + 65 < cLine) : OpR X (compareOp .In) (rInT X.K) := by
  intro pins s σ H x y v u Q I rx ry h
  obtain ⟨d, ds, hd, he, sd, se, q⟩ := h
  obtain ⟨as, r1⟩ := Dp.reads I d x v hd rx
  obtain ⟨bs, r2⟩ := Dp.reads I (.tuple ds) y u he ry
  exact SeqAt.in_tuple_reads r2 r1 (SeqAt.canLay_of_shaped se) (SeqAt.canLay_of_shaped sd) (room_in_shaped sd hu) ⟨.bl _, H, I, rfl, q⟩
def dInT : W → W → (W → Prop) → Prop := fun x y Q => match y with
  | .cl (.tup ds) => okD x.toD = true ∧ okD (.tup ds) = true ∧ Q (.cl (.bl (inD x.toD ds)))
  | _ => False
theorem b_inT {T : Tb} : Bin2 T (rInT T.K) dInT := by
  intro G F H F' H' x y u w P Q go rx ry h k
  unfold dInT at h
  split at h
  · rename_i ds
    obtain ⟨o1, o2, q⟩ := h
    have r : Rep T F' y (.tup ds) := ry
    refine ⟨_, _, (rx.rep go.ex).dpo o1, ((r.mono go.ex)).dpo o2, o1, o2, ?_⟩
    rw [pd_in]
    exact k _ q _ _ _ go (.bl _)
  · exact h.elim
end Vl
set_option maxHeartbeats 2000000
/-! an own exception, made, raised, let out of a def, caught; over plain data -/
namespace Vl
open PySem PySem.Spec PyProof.Rows L2
/-- the fields of the exception -/
def exFs (nm : Str) (p : V) : List (Str × V) := [("name", .str nm), ("place", p)]
def spInv (C : Addr) (nm : Str) : Sp := fun vs H Q _ => ∃ (a : Addr) (p : V), vs = [.ref a, p] ∧ H a = some (exo a C none) ∧ ∀ dx, H dx = none → dx ≠ a → Q .non (upd (upd H dx (exd dx (exFs nm p))) a (exo a C (some dx)))
section
open PySem.W PySem.Calls
variable {P : Program} {w : World} {K : Frag} {mg : Str → Option Value} {base : Heap} {CX : CXT} {C D f f2 : Addr}
theorem fnok_inv {name qual name2 qual2 : Str} {st st2 : Stmt} {fd fd2 : FuncData} {ar ar2 : Arg} {nm : Str} {j k : Nat} {v0 v1 v2 v3 v4 v5 v6 p0 p1 p2 p3 p4 p5 r0 r1 r2 r3 u0 u1 u2 u3 : Pos}
    (SF : SupF P K name qual st f fd C) (SF2 : SupF P K name2 qual2 st2 f2 fd2 D) (EK : ExcK K C D) (hbody : defBody st = bodyE1 nm j v0 v1 v2 v3 v4 v5 v6) (hmc : McEq (.Call (.Name "super" v0) [] [] v1) "__init__" v2 v5 [.Name "place" v3, .Constant (.str nm) j v4])
    (hbody2 : defBody st2 = bodyE2 p0 p1 p2 p3 p4 p5 r0 r1 r2 r3 u0 u1 u2 u3) (hmc2 : McEq (.Call (.Name "super" p0) [] [] p1) "__init__" p2 p4 [.Name "place" p3])
    (sc : ScE (defScope st) ["self", "place"]) (sc2 : ScE (defScope st2) ["self", "place", "name"]) (har : ((defArgs st).posonlyargs ++ (defArgs st).args).head? = some ar) (harn : ar.arg = "self") (har2 : ((defArgs st2).posonlyargs ++ (defArgs st2).args).head? = some ar2) (harn2 : ar2.arg = "self")
    (hboot : bootBuiltins "super" = some (.type "super")) (hmg : mg "super" = none) (htop : (P.main.scope.names.lookup ("super" : Str)).isSome = false)
    (hsup : ks_superIn K C C "__init__" = some (some (.ref f2))) (hmro : mroIn K C (.ref C) = some true) (ht2 : typeIn K (.ref f2) = some (.type "function"))
    (hbind2 : ∀ (s' : Shared) (a b c : Value), K.In s'.heap → BindsTo s' fd2 ⟨[a, b, c], []⟩ [("self", a), ("place", b), ("name", c)]) : FnOk P w K mg base CX (k + 1) f fd ["self", "place"] (spInv C nm) := by
  refine ⟨fun vs H Q E h => by obtain ⟨a, p, rfl, _⟩ := h; rfl, fun A outer s H args us vs Q E hr e0 hb r hsp => ?_⟩
  obtain ⟨a, p, rfl, e, hq⟩ := hsp
  obtain ⟨u, rfl, rp⟩ : ∃ u, us = [Value.ref a, u] ∧ RelV p u := by
    cases r with
    | cons ra rr =>
      cases rr with
      | cons rp rr =>
        cases rr
        cases ra
        exact ⟨_, rfl, rp⟩
  have KX : K.In s.heap := e0.mod.kin.keeps fun b o e => (e0.bs b o e).1
  obtain ⟨mb, hmb1, hmb2⟩ := e0.mod.blt
  obtain ⟨t0, hx⟩ := exo_at e0.hok e
  refine inv_code (mg := mg) (mb := mb) (t0 := t0) SF SF2 EK hbody hmc hbody2 hmc2 sc sc2 har harn har2 harn2 (by have := hr.dp; omega) KX (e0.mod.nolimit.keeps fun b o e => (e0.bs b o e).1) (e0.mod.glob.keeps fun b o e => (e0.bs b o e).1) (hmb1.keeps fun b o e => (e0.bs b o e).1) ((hmb2 _ (by decide)).trans hboot) hmg htop hsup hmro ht2 hb hbind2 hx (fun o z => ?_) fun h' tk dx t1 tok kk n0 dne hx' hn => ?_
  · have := (e0.bs a o (e0.mod.kin _ _ z)).2
    rw [e] at this
    cases this
  · have hnd : H dx = none := e0.hok.gone n0
    have nd : ∀ {b : Addr} {o : Obj}, s.heap.get? b = some o → b ≠ dx := fun {b o} q z => by rw [z, n0] at q; cases q
    have na : ∀ {b : Addr}, H b = none → b ≠ a := fun {b} n z => by
      rw [z, e] at n
      cases n
    have Un1 : Un (frs outer) [] H (upd (upd H dx (exd dx (exFs nm p))) a (exo a C (some dx))) s.heap h' := {
      keep := fun b o q n _ _ => kk b o (na n) q
      slot := fun b o q n _ _ => ⟨o.slots, kk b o (na n) q⟩
      free := fun b o q n _ => by rw [upd_ne (na n), upd_ne (nd q)]; exact n
      there := fun b o q _ => by
        by_cases hb : b = a
        · exact ⟨_, by rw [hb]; exact hx'⟩
        · exact ⟨o, kk b o hb q⟩
      tups := fun b xs q => by rw [upd_ne (at_ne e q exo_tup), upd_ne (ne_of_none q hnd)]; exact q
      frzs := fun b o v q => by rw [upd_ne (at_ne e q exo_frz), upd_ne (ne_of_none q hnd)]; exact q
      tbls := fun b ps q => ⟨#[], by rw [upd_ne (at_ne e q exo_tbl), upd_ne (ne_of_none q hnd), q]; simp⟩ }
    refine ⟨.non, _, rfl, e0.bare, Un1, fun b o q => ?_, rfl, hq dx hnd dne⟩
    by_cases hb : b = a
    · subst hb
      rw [upd_same] at q
      cases q
      exact exo_ok hx'
    · rw [upd_ne hb] at q
      by_cases hd : b = dx
      · subst hd
        rw [upd_same] at q
        cases q
        exact exd_ok hn (relO_put (f := "name") (y := .str nm) (fs := [("place", p)]) (mA := fun y => if y = "place" then some u else none) ⟨tok, rfl⟩ (relO_put (f := "place") (fs := []) (mA := fun _ => none) rp fun g => True.intro))
      · rw [upd_ne hd] at q
        exact (e0.hok b o q).stay (fun c v hc z => kk c v (by
            rcases hc with hc | hc
            · rw [hc]
              exact hb
            · exact at_ne e hc exo_own) z)
          (fun c hc => by rw [upd_ne (at_ne e hc exo_own), upd_ne (ne_of_none hc hnd)]; exact hc) (fun c xs hc => by rw [upd_ne (at_ne e hc exo_tup), upd_ne (ne_of_none hc hnd)]; exact hc)
end
/-! ### exits -/
/-- what is told of an exception that leaves: its place -/
def xcW (C : Addr) (nm : Str) (ex : Int → Prop) : XK := fun cls d H => ∃ (dd : Addr) (i : Int), cls = .ref C ∧ d = some dd ∧ H dd = some (.xd (exFs nm (.int i))) ∧ ex i
abbrev xcWX (C : Addr) (nm : Str) (ex : Int → Prop) : WX := fun cls d _ H => xcW C nm ex cls d H
def aRaise (ex : Int → Prop) (e : AE) : AS := fun _ δ => aCons e aNil δ fun ws => ∃ i, ws = [W.cl (.int i)] ∧ ex i
/-- from the arguments to what is wanted of the answer, or of the place -/
abbrev CtE := List W → (W → Prop) → (Int → Prop) → Prop
def spE (T : Tb) (C : Addr) (nm : Str) (c : CtE) : Sp := fun vs H Q E => ∃ G F ws P R, Same F H ∧ RepAs T G F H vs ws ∧ c ws P R ∧ (∀ w, P w → ∀ v F' H', Go F H F' H' → RepR T H F' H' v w → Q v H') ∧ ∀ cls d H', xcW C nm R cls d H' → E cls d H'
def aCallE (ex : Int → Prop) (c : CtE) (es : AA) : AE := fun δ Q => es δ fun ws => c ws Q ex
section
variable {T : Tb} {X : Cx} {C : Addr} {nm : Str} {ex : Int → Prop} {e : Expr} {es : List Expr} {x : AE} {xs : AA} {pos pos' p : Pos}
theorem rd_raise {D : Ends} {σ : L2.St} {H : Hp} (h : rdS T (aRaise ex x) D σ H) : tMkO C (spInv C nm) [] (rdA T (aCons x aNil)) σ H (xcW C nm ex) := by
  obtain ⟨G, F, δ, E, R, h, k⟩ := h
  refine ⟨G, F, δ, _, R, h, fun ws hw vs F1 H1 g r => ?_⟩
  obtain ⟨i, rfl, hi⟩ := hw
  cases r with
  | cons rv rr =>
    cases rr
    have rv : Rep T F1 _ (.int i) := rv
    cases rv
    refine ⟨by show 1 ≤ 1000; decide, fun a ha => ⟨a, .int i, rfl, upd_same, fun dx hd ne => ?_⟩⟩
    have h1 : H1 dx = none := by rw [upd_ne ne] at hd; exact hd
    refine ⟨rfl, dx, exFs nm (.int i), upd_same, by rw [upd_ne ne, upd_same], h1, dx, i, rfl, rfl, upd_same, hi⟩
theorem s_raise {CX : CXT} {y : Str} {fI : Addr} {k : Nat} {fd : FuncData} {ps : List Str} (hc : X.calm = true) (tk : Takes X (xcWX C nm ex)) (OX : OexC X.K C) (iC : PySem.W.findIn X.K (.ref C) "__init__" = some (some (.ref fI))) (tI : PySem.W.typeIn X.K (.ref fI) = some (.type "function"))
    (F1 : FnOk X.prog X.w X.K X.mg X.base CX0 k fI fd ps (spInv C nm)) (hr : Room (k + 1) X.A) (hb : Binds X.K fd ps []) (hg : Gl X y) (hm : X.mg y = some (.ref C)) (he : PE X e (rdE T x))
    (hdb : (y == ("__debug__" : Str)) = false := by decide) (hst : starEach [e] X.env = (false, eval e X.env) :: starEach [] X.env := by rfl) :
    PS X (.Raise (some (.Call (.Name y p) [e] [] pos)) none pos') (rdS T (aRaise ex x)) :=
  (ps_raise hc tk (pmk_oex OX iC tI F1 hr hb .nil pass0 hg hm (a_cons he a_nil hst) hdb hst rfl)).mono fun D σ H h => rd_raise h
theorem rd_callE {c : CtE} {E : XK} {σ : L2.St} {H : Hp} {Q : VK} (hE : ∀ cls d H', xcW C nm ex cls d H' → E cls d H') (h : rdE T (aCallE ex c xs) σ H Q) : tCall (spE T C nm c) [] E (rdA T xs) σ H Q := by
  obtain ⟨G, F, δ, P, R, h, k⟩ := h
  refine ⟨G, F, δ, _, R, h, fun ws hw vs F1 H1 g r => ?_⟩
  show spE T C nm c (vs ++ []) H1 Q E
  rw [List.append_nil]
  exact ⟨G, F1, ws, P, ex, g.ex, r, hw, fun w hP v F2 H2 g2 r2 => k w hP v F2 H2 (g.trans g2) ((RepR.toW r2).back g.h), hE⟩
theorem e_callE {c : CtE} {y : Str} {f : Addr} {k : Nat} {fd : FuncData} {ps : List Str} (hx : Passes (L2.CX X.prog X.w) X (xcW C nm ex)) (Fn : FnOk X.prog X.w X.K X.mg X.base (L2.CX X.prog X.w) k f fd ps (spE T C nm c)) (hr : Room k X.A) (hg : Gl X y) (hm : X.mg y = some (.ref f)) (hk : PySem.W.keepIn X.K (.ref f) = true) (hb : Binds X.K fd ps [])
    (ha : PA X (e :: es) (rdA T xs)) (hdb : (y == ("__debug__" : Str)) = false := by decide) (he : starEach (e :: es) X.env = (false, eval e X.env) :: starEach es X.env := by rfl) (hpl : (backTo pos (starEach es X.env)).any (·.1) = false := by rfl) :
    PE X (.Call (.Name y p) (e :: es) [] pos) (rdE T (aCallE ex c xs)) :=
  (pe_call Fn hr hg hm hk hb .nil (E := xcW C nm ex) hx ha hdb he hpl).mono fun _ _ _ h => rd_callE (fun _ _ _ h => h) h
end
section
variable {P : Program} {wd : World} {K : PySem.W.Frag} {mg : Str → Option Value} {base : Heap} {T : Tb} {C : Addr} {nm : Str} {c : CtE} {f : Addr} {fd : FuncData} {k : Nat}
theorem fn_okE {y qual : Str} {st : Stmt} {N ps : List Str} {a : (Int → Prop) → AS} (Fn : Fun K y qual st f fd) (S : FnScope N ps (defScope st)) (len : ∀ ws P R, c ws P R → ws.length = ps.length) (hN : ps.length ≤ N.length)
    (hd : ∀ (ex : Int → Prop) (cdv : Value) (A : Around) (outer : List Env) (s : Shared) (H : Hp) (E : XK), Room k (A.deeper (envOfC qual (defScope st) s.heap.objs.size f cdv)) →
      Takes (cxOf (L2.CX P wd) P wd K mg base N qual (defScope st) f cdv A outer s H E) (xcWX C nm ex) → PassesOwn (model P wd) (A.deeper (envOfC qual (defScope st) s.heap.objs.size f cdv)) (envOfC qual (defScope st) s.heap.objs.size f cdv) (cxOf (L2.CX P wd) P wd K mg base N qual (defScope st) f cdv A outer s H E).xe →
      PSs (cxOf (L2.CX P wd) P wd K mg base N qual (defScope st) f cdv A outer s H E) (defBody st) (rdS T (a ex)))
    (hw : ∀ ws P R, c ws P R → a R { nx := fun _ => P (.cl .non), rt := fun w _ => P w } (startA N.length ws)) : FnOk P wd K mg base (L2.CX P wd) (k + 1) f fd ps (spE T C nm c) := by
  obtain ⟨oc, od, kV, doc, pm, an, cdv, ct, osl, rfl, lk, hcd⟩ := Fn.ex
  refine fn_of lk hcd S (fun vs H Q E h => ?_) fun A outer s H vs Q E hr h => ?_
  · obtain ⟨G, F, ws, P, R, sm, r, hc, _⟩ := h
    rw [r.length]; exact len ws P R hc
  · obtain ⟨G, F, ws, P', R', sm, r, hc, kk, ke⟩ := h
    have tk : Takes (cxOf (L2.CX P wd) P wd K mg base N qual (defScope st) f cdv A outer s H E) (xcWX C nm R') := (takes_of rfl rfl rfl rfl).imp fun cls d σ H' h => ke cls d H' h
    refine ⟨_, hd R' cdv A outer s H E hr tk (passes_of rfl), ?_⟩
    have R := repS_start sm r (by rw [len ws P' R' hc]; exact hN) N rfl
    refine ⟨_, F, _, _, R, hw ws P' R' hc, ?_⟩
    have go : ∀ {F' H' : Hp} {σ' : L2.St} {δ' : List AV}, RepS T ⟨H, F, [], .non⟩ F' H' σ' δ' → Go F H F' H' := fun {F' H' σ' δ'} R' => ⟨fun a o e => R'.fr a o e (by simp), R'.f0, R'.ex, fun a h n => R'.fn a h (fun z => nomatch z) (Same.nt (fun b o e => R'.fr b o e (by simp)) h n)⟩
    exact ⟨fun δ' q F' H' σ' s R' => kk _ q .non F' H' (go R') .non, fun w δ' q v F' H' σ' s R' r' _ => kk w q v F' H' (go R') r', fun δ' q => q.elim, fun δ' q => q.elim⟩
end
end Vl
set_option maxHeartbeats 4000000
/-! a list comprehension whose element may raise -/
namespace Vl
open PySem PySem.Spec PyProof.Rows L2
abbrev blkx (X : Cx) (s : Shared) (H : Hp) (scope : Scope) (ce : Env) (fp : List Addr) : Cx := { X.blk s H scope ce fp with xe := fun u s' => notedBy (model X.prog X.w) X.A ce (CompFails (model X.prog X.w) X.A X.xe ce) u s' }
section
variable {X : Cx} {W : WX} {E : XK} {pins : List (Addr × Obj)} {σ : L2.St} {s3 : Shared} {H3 : Hp} {scope : Scope} {ce : Env} {fp : List Addr}
theorem passB (hs : X.stack = X.env :: X.outer) (hf : X.env.frame = some X.env.locals) (tk : Takes X W) (hW : ∀ cls d H, E cls d H → W cls d σ H) (I3 : Inv X pins σ H3 s3) (hcf : ce.frame = X.env.frame) (hfp : ∀ b ∈ fp, FpOk X pins H3 b ∧ b < s3.heap.objs.size) :
    Passes (L2.CX X.prog X.w) (blkx X s3 H3 scope ce fp) E := by
  intro pins' σ' H s e s' Ib c
  obtain ⟨a, B, H', cls, d, rfl, fl, hok, ub, na, os, ag, hE⟩ := c
  have ab : s3.heap.objs.size ≤ ce.locals := Ib.ok.above
  have Cn : H ce.locals = none := Ib.free
  obtain ⟨m, hn, _⟩ := Ib.loc
  have hn : s.heap.Ns ce.locals m := hn
  obtain ⟨oC, es, ep, hC, hCd, hCr⟩ := hn
  have Cf : ce.locals ∉ frs X.stack := fun hm => by
    obtain ⟨_, o, e, _⟩ := I3.stack.mem hm
    exact absurd (Nat.lt_of_lt_of_le (Heap.lt_size e) ab) (Nat.lt_irrefl _)
  have Bs : ∀ b o, s3.heap.get? b = some o → b ≠ ce.locals := fun b o e z => absurd (Nat.lt_of_lt_of_le (Heap.lt_size e) (z ▸ ab)) (Nat.lt_irrefl _)
  have hCB : B.get? ce.locals = some oC := ub.keep _ _ hC Cn Cf
  have hfl : HandSPX.FlyingZ B (X.env :: X.outer) a (Zc cls d) s'.heap := by rw [← hs]; exact fl
  have hfr : X.A.frames = some (X.env :: X.outer) := by rw [← hs]; exact I3.ok.frames
  show wpAny (model X.prog X.w) X.A (noteFrame (.ref a) ce) _ _ s'
  rw [noteFrame_env _ hcf]
  refine HandSPX.looks_onZ Zc.steady hfr hf hfl fun h1 hh up1 => ?_
  obtain ⟨b1, b0, f1, t1⟩ := hh
  have hC1 : h1.get? ce.locals = some oC := b1 _ _ hCB
  refine ⟨m, ⟨oC, es, ep, hC1, hCd, hCr⟩, fun h2 m2 hn2 hs2 => ?_⟩
  obtain ⟨B', hB'⟩ : ∃ B', B' = PySem.W.hideAll B [ce.locals] := ⟨_, rfl⟩
  have ofB : ∀ {b o}, B'.get? b = some o → B.get? b = some o ∧ b ≠ ce.locals := fun {b o} e => by
    rw [hB'] at e
    refine ⟨PySem.W.of_hideAll _ e, fun z => ?_⟩
    rw [PySem.W.hideAll_none _ (by rw [z]; exact List.mem_singleton.mpr rfl)] at e
    cases e
  have toB : ∀ {b o}, B.get? b = some o → b ≠ ce.locals → B'.get? b = some o := fun {b o} e n => by
    rw [hB']
    exact PySem.W.hideAll_get _ e fun z => n (List.mem_singleton.mp z)
  have noB : ∀ {b}, B.get? b = none → B'.get? b = none := fun {b} e => by
    cases q : B'.get? b with
    | none => rfl
    | some o => rw [(ofB q).1] at e; cases e
  have b2 : B'.StaysIn h2 := fun b o hb => (hs2.2 b (ofB hb).2).trans (b1 b o (ofB hb).1)
  have f2 : h2.FunFrames B' (X.env :: X.outer) := funFrames_none (Heap.FunFrames.sameBut hs2 hn2 f1) fun L hL => noB (f1.mem hL).1
  have t2 : HandSPX.TracedZ h2 B' a (Zc cls d) (rawInt X.env.locals) := by
    obtain ⟨oe, vs, T, oT, ts, he, hz, hd, hv1, hnT, hTe, hT, hdT, h3⟩ := t1
    refine ⟨oe, vs, T, oT, ts, (hs2.2 a fun z => ?_).trans he, hz, hd, hv1, noB hnT, hTe, (hs2.2 T fun z => ?_).trans hT, hdT, h3⟩
    · rw [z, hC1] at he; cases he; rw [hCd] at hd; cases hd
    · rw [z, hC1] at hT; cases hT; rw [hCd] at hdT; cases hdT
  have t2' := t2
  obtain ⟨oe, vs, T, oT, ts, he, hz, hd, hv1, hnT, hTe, hT, hdT, h3⟩ := t2'
  unfold PySem.passOn
  refine wpAny_bind (wpAny_field he hd hv1 ?_)
  rw [if_neg (show ¬ ((Value.ref T == Value.none) = true) from by simp)]
  rw [hcf, hf]
  have fin : wpAny (model X.prog X.w) X.A (setFlight (.ref a) (some X.env.locals)) (fun _ s4 => wpAny (model X.prog X.w) X.A (throw (.ref a) : Sem Value) (fun _ _ => False) X.xe s4) X.xe { s' with heap := h2 } := by
    refine HandSPX.setFlight_anyZ (fr := some X.env.locals) b2 f2 t2 fun h3 k1 k2 k3 k4 => wpAny_throw (tk _ _ ?_)
    obtain ⟨G, g1, g2⟩ := restrict h3 fun b => (B'.get? b).isSome || decide (b ∈ frs X.stack)
    have gB : ∀ b o, B'.get? b = some o → G.get? b = some o := fun b o e => by
      rw [g1 b (by simp [e])]
      exact k1 b o e
    have gF : ∀ b, b ∈ frs X.stack → G.get? b = h3.get? b := fun b hb => g1 b (by simp [hb])
    have og : ∀ b o, G.get? b = some o → h3.get? b = some o ∧ ((B'.get? b).isSome = true ∨ b ∈ frs X.stack) := fun b o e => by
      cases q : ((B'.get? b).isSome || decide (b ∈ frs X.stack)) with
      | false => rw [g2 b q] at e; cases e
      | true =>
        rw [g1 b q] at e
        exact ⟨e, by simpa [Bool.or_eq_true] using q⟩
    have HC : H' ce.locals = none := ub.free _ _ hC Cn
    have ib := Ib.base
    have slot : ∀ b o, s.heap.get? b = some o → b ∈ frs X.stack → ∃ sl, G.get? b = some { o with slots := sl } := fun b o e hb => by
      obtain ⟨sl, q⟩ := ub.slot b o e hb
      have nd : ∀ vs, o.data ≠ .fields vs := by
        obtain ⟨_, o', e', hnd⟩ := I3.stack.mem hb
        obtain ⟨sl0, q0⟩ := ib.slot b o' e' (I3.stkFree b hb) hb fun z => Ib.ok.exfs b z hb
        rw [e] at q0
        cases q0
        exact hnd
      obtain ⟨sl1, q1⟩ := up1 b _ q nd
      have q2 : h2.get? b = some _ := (hs2.2 b fun z => Cf (z ▸ hb)).trans q1
      obtain ⟨sl2, q3⟩ := k4 b _ q2 nd
      exact ⟨sl2, by rw [gF b hb]; exact q3⟩
    refine ⟨a, B', { s with heap := G, gens := s'.gens, drawn := s'.drawn, toks := s'.toks }, pins, σ, H', cls, d, rfl, ?_, fun b o e hb => ?_, Heap.UpToSlots.of_keeps fun b o e => (og b o e).1, .inr (.inr ?_), na, os, ag, hW _ _ _ hE⟩
    · refine I3.call' (ch := fp) (H' := H') Ib.os ⟨fun b o e n hb hx => ?_, fun b o e n hb hx => ?_, fun b o e n hx => ?_, fun b o e hx => ?_, fun b xs e => ub.tups b xs (ib.tups b xs e), fun b o u e => ub.frzs b o u (ib.frzs b o u e), fun b ps e => ?_⟩ ?_ ag fun b hb => ⟨(hfp b hb).1.2.2.2.1, (hfp b hb).1.2.1, (hfp b hb).1.2.2.2.2.1, (hfp b hb).1.2.2.2.2.2⟩
      · exact gB b o (toB (ub.keep b o (ib.keep b o e n hb hx) (ib.free b o e n hx) hb) (Bs b o e))
      · obtain ⟨sl, q⟩ := ib.slot b o e n hb hx
        obtain ⟨sl2, q2⟩ := slot b _ q hb
        exact ⟨sl2, q2⟩
      · obtain ⟨o', q⟩ := ib.there b o e hx
        exact ub.free b o' q (ib.free b o e n hx)
      · obtain ⟨o', q⟩ := ib.there b o e hx
        by_cases hb : b ∈ frs X.stack
        · obtain ⟨sl, q2⟩ := slot b o' q hb
          exact ⟨_, q2⟩
        · obtain ⟨o2, q2⟩ := ub.there b o' q hb
          exact ⟨o2, gB b o2 (toB q2 (Bs b o e))⟩
      · obtain ⟨m1, q1⟩ := ib.tbls b ps e
        obtain ⟨m2, q2⟩ := ub.tbls b _ q1
        exact ⟨m1 ++ m2, by rw [q2, Array.append_assoc]⟩
      · refine fun b o q => (hok b o q).stay (fun c u hc r => gB c u (toB r fun z => ?_)) (fun _ r => r) fun _ _ r => r
        rcases hc with hc | hc
        · rw [← hc, z, HC] at q; cases q
        · rw [z, HC] at hc; cases hc
    · obtain ⟨e', h⟩ := og b o e
      rcases h with h | h
      · obtain ⟨o', q⟩ := Option.isSome_iff_exists.mp h
        have z := k1 b o' q
        rw [e'] at z; cases z
        exact q
      · exact absurd h hb
    · rw [hs]
      exact ⟨k1, noB b0, k2, k3⟩
  first
    | exact wpAny_bind (wpAny_pure (wpAny_bind fin))
    | exact wpAny_bind fin
end
end Vl
set_option maxHeartbeats 4000000
/-! name = [element for x in ..], where the element may raise -/
namespace Vl
open PySem PySem.Spec PyProof.Rows L2
section
variable {X : Cx} {s0 : Shared} {H0 : Hp} {scope : Scope} {ce : Env} {fp : List Addr}
/-- the iterator's cells are no one else's -/
theorem blk_apart {σ : L2.St} {H : Hp} {s : Shared} (I : Inv (blkx X s0 H0 scope ce fp) [] σ H s) (hn : ∀ b ∈ fp, H b = none) : ∀ b ∈ fp, FpOk (blkx X s0 H0 scope ce fp) [] H b := by
  intro b hb
  obtain ⟨e1, e2⟩ := I.ok.exf b hb
  refine ⟨hn b hb, e1, I.ok.exfs b hb, Or.inl hb, fun x c q => e2 x c q, fun p hp => ?_⟩
  simp at hp
/-- where a turn begins -/
structure BlkAt (X : Cx) (s0 : Shared) (H0 : Hp) (scope : Scope) (ce : Env) (fp : List Addr) (tn : Nat → Heap → Prop) (σ : L2.St) (i : Nat) (H : Hp) (s : Shared) : Prop where
  inv : Inv (blkx X s0 H0 scope ce fp) [] σ H s
  at_ : tn i s.heap
  free : ∀ b ∈ fp, H b = none
/-- the pinned state behind an element is where the next turn begins -/
theorem BlkAt.next {tg : Expr} {J : It} {it : Addr} {tn : Nat → Heap → Prop} {P : Program} {w : World} {K : PySem.W.Frag} (hT : Turn P w K tg J fp it tn) {i : Nat} {σ σ' : L2.St} {H' : Hp} {s s' : Shared} {vs : List Nat} (hσ : wipe σ' vs = σ) (ht : tn (i + 1) s.heap)
    (I : Inv (blkx X s0 H0 scope ce fp) ([] ++ pinsAt fp s.heap) σ' H' s') : BlkAt X s0 H0 scope ce fp tn σ (i + 1) H' s' := by
  have held : ∀ b ∈ fp, ∀ o, s.heap.get? b = some o → s'.heap.get? b = some o ∧ H' b = none := fun b hb o e => by
    obtain ⟨z1, z2, _⟩ := I.pin (b, o) (by simpa using mem_pinsAt hb e)
    exact ⟨z1, z2⟩
  constructor
  · subst hσ
    refine I.unpinned.weak (wipe_length σ' vs) fun j v e => (wipe_some e).1
  · exact hT.keep _ _ _ ht fun b hb o e => (held b hb o e).1
  · intro b hb
    obtain ⟨o, e, _⟩ := hT.obj _ _ ht b hb
    exact (held b hb o e).2
/-- one turn -/
theorem blk_turn {tg elt : Expr} {ifs : List Expr} {J : It} {it D : Addr} {tn : Nat → Heap → Prop} {g : TG} {tt : TT} {te : TE} {σ : L2.St} {vs : List Nat} {Nx : Hp → Prop} {N : Shared → Prop} {R : Result → Shared → Prop}
    (hT : Turn X.prog X.w X.K tg J fp it tn) (hc : X.calm = true) (pg : PG (blkx X s0 H0 scope ce fp) tg g) (pt : PTs (blkx X s0 H0 scope ce fp) ifs tt) (pe : PE (blkx X s0 H0 scope ce fp) elt te)
    (hF : ∀ e s', CompFails (model X.prog X.w) X.A X.xe ce e s' → R (.error e) s') {i : Nat} {H : Hp} {s : Shared} (B : BlkAt X s0 H0 scope ce fp tn (wipe σ vs) i H s) (hgo : J.go i H)
    (step : ∀ x H', J.yld i H x H' → g x (wipe σ vs) H' fun σ2 H2 => wipe σ2 vs = wipe σ vs ∧ tt σ2 H2 fun b H3 => if b = true then te σ2 H3 fun y H4 => ∃ acc, H4 D = some (.lst acc) ∧ acc.length < sizeLine ∧ Nx (upd H4 D (.lst (acc ++ [y]))) else Nx H3)
    (next : ∀ H' s', BlkAt X s0 H0 scope ce fp tn (wipe σ vs) (i + 1) H' s' → Nx H' → N s') :
    wpAny (model X.prog X.w) X.A (pyNext (.ref it)) (fun r s₁ => match r with
      | none => R (.ok .next) s₁
      | some v => wpAny (model X.prog X.w) X.A (letOwnedTupleGo tg (.ref it) v) (fun _ s₁' => wpAny (model X.prog X.w) X.A (assign tg ce v) (fun _ s₂ =>
          wpAny (model X.prog X.w) X.A (forIn ifs true fun c r => if r = true then do let ok ← isTrue c ce (eval c ce); pure (ForInStep.yield ok) else pure (ForInStep.yield r)) (fun ok s₃ =>
            if ok = true then wpAny (model X.prog X.w) X.A (eval elt ce) (fun x s₄ =>
              wpAny (model X.prog X.w) X.A (call (.builtin "list.append") [.ref D, x]) (fun _ s₅ => N s₅) (notedBy (model X.prog X.w) X.A ce fun e s' => R (.error e) s') s₄) (notedBy (model X.prog X.w) X.A ce fun e s' => R (.error e) s') s₃
            else N s₃) (notedBy (model X.prog X.w) X.A ce fun e s' => R (.error e) s') s₂) (notedBy (model X.prog X.w) X.A ce fun e s' => R (.error e) s') s₁') (notedBy (model X.prog X.w) X.A ce fun e s' => R (.error e) s') s₁) (notedBy (model X.prog X.w) X.A ce fun e s' => R (.error e) s') s := by
  have up : ∀ e s', (blkx X s0 H0 scope ce fp).xe e s' → notedBy (model X.prog X.w) X.A ce (fun e s' => R (.error e) s') e s' := fun e s' z => wpAny_mono z (fun _ s'' q => hF _ _ q) fun _ s'' q => hF _ _ q
  have first := hT.item (blkx X s0 H0 scope ce fp) rfl rfl rfl hc i [] s (wipe σ vs) H (notedBy (model X.prog X.w) X.A ce fun e s' => R (.error e) s') B.inv (blk_apart B.inv B.free) B.at_ hgo
  refine wpAny_mono first (fun r s1 q => ?_) fun _ _ z => z
  obtain ⟨u, rfl, q⟩ := q
  refine wpAny_mono q (fun _ s2 q2 => ?_) fun _ _ z => z
  obtain ⟨x, H1, I1, rx, hy, ht, hn⟩ := q2
  have Ip := I1.pinned (blk_apart I1 hn) (hT.obj _ _ ht)
  refine wpAny_mono (pg.run _ _ _ _ _ _ _ Ip rx (step x H1 hy)) (fun _ s3 q3 => ?_) up
  obtain ⟨σ2, H2, I2, hσ, q3⟩ := q3
  refine wpAny_mono (pt.run _ _ _ _ _ I2 q3) (fun b s4 q4 => ?_) up
  obtain ⟨H3, I3, q4⟩ := q4
  by_cases hb : b = true
  · subst hb
    have q4 : te σ2 H3 _ := q4
    refine wpAny_mono (pe.run _ _ _ _ _ I3 q4) (fun y s5 q5 => ?_) up
    obtain ⟨yv, H4, I4, ry, acc, hD, hl, nx⟩ := q5
    exact app_ok (X := blkx X s0 H0 scope ce fp) I4 hD hl ry fun s6 I6 => next _ _ (BlkAt.next hT hσ ht I6) nx
  · have hb : b = false := by simpa using hb
    subst hb
    exact next _ _ (BlkAt.next hT hσ ht I3) q4
/-- all turns -/
theorem blk_loop {tg elt iter : Expr} {ifs : List Expr} {sc2 : Scope} {pos : Pos} {J : It} {it D : Addr} {tn : Nat → Heap → Prop} {g : TG} {tt : TT} {te : TE} {σ : L2.St} {vs : List Nat} {Qd : Hp → Prop} {R : Result → Shared → Prop} {W : Nat → Nat → Hp → Prop}
    (hT : Turn X.prog X.w X.K tg J fp it tn) (hc : X.calm = true) (pg : PG (blkx X s0 H0 scope ce fp) tg g) (pt : PTs (blkx X s0 H0 scope ce fp) ifs tt) (pe : PE (blkx X s0 H0 scope ce fp) elt te)
    (hF : ∀ e s', CompFails (model X.prog X.w) X.A X.xe ce e s' → R (.error e) s')
    (turn : ∀ i m H, W i m H → (J.stop i H ∧ Qd H) ∨ (J.go i H ∧ ∃ Nx : Hp → Prop, (∀ H', Nx H' → ∃ m', m' < m ∧ W (i + 1) m' H') ∧ ∀ x H', J.yld i H x H' → g x (wipe σ vs) H' fun σ2 H2 => wipe σ2 vs = wipe σ vs ∧ tt σ2 H2 fun b H3 =>
      if b = true then te σ2 H3 fun y H4 => ∃ acc, H4 D = some (.lst acc) ∧ acc.length < sizeLine ∧ Nx (upd H4 D (.lst (acc ++ [y]))) else Nx H3))
    (last : ∀ H s', Inv (blkx X s0 H0 scope ce fp) [] (wipe σ vs) H s' → Qd H → R (.ok .next) s') {m : Nat} {H : Hp} {s : Shared} (B : BlkAt X s0 H0 scope ce fp tn (wipe σ vs) 0 H s) (w0 : W 0 m H) :
    codeAny (model X.prog X.w) X.A (.compLoop (.ListComp elt [⟨tg, iter, ifs, 0⟩] sc2 pos) 0 (.ref it) (.ref D) ce) R s := by
  refine compLoop_any (fun n s' => ∃ i H', BlkAt X s0 H0 scope ce fp tn (wipe σ vs) i H' s' ∧ W i n H') (fun n s' hI => ?_) m ⟨0, H, B, w0⟩
  obtain ⟨i, H', B', w'⟩ := hI
  rcases turn i n H' w' with ⟨hstop, q⟩ | ⟨hgo, Nx, hN, step⟩
  · have td := hT.done (blkx X s0 H0 scope ce fp) rfl rfl rfl hc i [] s' (wipe σ vs) H' (notedBy (model X.prog X.w) X.A ce fun e s' => R (.error e) s') B'.inv (blk_apart B'.inv B'.free) B'.at_ hstop
    refine wpAny_mono td (fun r s2 q2 => ?_) fun _ _ z => z
    obtain ⟨rfl, I2⟩ := q2
    exact last H' s2 I2 q
  · exact blk_turn hT hc pg pt pe hF B' hgo step fun H2 s2 B2 nx => by
      obtain ⟨m', hm, w2⟩ := hN H2 nx
      exact ⟨m', hm, i + 1, H2, B2, w2⟩
end
section
variable {X : Cx} {W : WX} {E : XK}
/-- what a block of X leaves is X's again -/
theorem blk_back {pins : List (Addr × Obj)} {σ σ' : L2.St} {s3 s : Shared} {H3 H : Hp} {scope : Scope} {ce : Env} {fp : List Addr} (I3 : Inv X pins σ H3 s3) (hfp : ∀ b ∈ fp, FpOk X pins H3 b) (I : Inv (blkx X s3 H3 scope ce fp) [] σ' H s) : Inv X pins σ H s := by
  refine I3.call' (ch := fp) I.os I.base I.hok I.bare fun b hb => ?_
  obtain ⟨_, e2, _, e4, e5, e6⟩ := hfp b hb
  exact ⟨e4, e2, e5, e6⟩
/-- name = [elt for tg in iter if ..] where elt may raise -/
theorem s_compX {i : Nat} {y : Str} {py : Pos} {elt tg iter : Expr} {ifs : List Expr} {scope : Scope} {own : List (Str × Nat)} {pos spos : Pos} {wi : TI} {g : TG} {tt : TT} {te : TE} (hst : X.stack = X.env :: X.outer) (hfr : X.env.frame = some X.env.locals) (tk : Takes X W) (hW : ∀ σ cls d H, E cls d H → W cls d σ H)
    (hc : X.calm = true) (hN : X.N.Nodup) (hy : X.N[i]? = some y) (hyl : X.env.scope.names.lookup y = some .local) (hsw : swapsWith (.ListComp elt [⟨tg, iter, ifs, 0⟩] scope pos) (some (.Name y py)) spos.line X.env = pure true) (hi : PI X tg iter wi) (ok : BlkOk X.N X.env.scope scope own)
    (hg : ∀ (s : Shared) (H : Hp) (C : Addr) (cl : List (Str × Addr)) (fp : List Addr), PG (blkx X s H scope (compEnvC scope cl C X.env) fp) tg g) (ht : ∀ (s : Shared) (H : Hp) (C : Addr) (cl : List (Str × Addr)) (fp : List Addr), PTs (blkx X s H scope (compEnvC scope cl C X.env) fp) ifs tt)
    (he : ∀ (s : Shared) (H : Hp) (C : Addr) (cl : List (Str × Addr)) (fp : List Addr), Passes (L2.CX X.prog X.w) (blkx X s H scope (compEnvC scope cl C X.env) fp) E → PE (blkx X s H scope (compEnvC scope cl C X.env) fp) elt te) (hs : ∀ x, foldedSetIterable iter X.env x = pure x := by intro _; rfl) :
    PS X (.Assign [.Name y py] (.ListComp elt [⟨tg, iter, ifs, 0⟩] scope pos) spos) (tAsg (tLc wi g tt te (own.map (·.2))) (gName i)) := by
  refine ⟨fun pins s σ H D I h => ?_⟩
  have free : ∀ z ∈ scope.names, z.2 = .free → ∃ c, X.env.cells.lookup z.1 = some c := fun z hz e => (ok.free z hz e).elim (fun k => I.ok.has _ (.inl k)) fun k => I.ok.has _ (.inr k)
  rw [exec_Assign_Name_used _ _ _ _ hsw]
  refine wpAny_bind (wpAny_standAt (wpAny_bind ?_))
  show wpAny _ X.A (do let _ ← comprehension (.ListComp elt [⟨tg, iter, ifs, 0⟩] scope pos) scope X.env (firstIterPos [⟨tg, iter, ifs, 0⟩] pos) (newList []) false (eval iter X.env) (some (assign (.Name y py) X.env))) _ _ s
  refine wpAny_bind (wpAny_mono (Q := fun _ s' => SP X pins D .next s') (comprehension_at (use := some (assign (.Name y py) X.env)) rfl hs (closure_ok free) ok.kind (fun z hz e => (ok.uniq z hz).trans (by rw [e])) ?_) (fun _ s' q => wpAny_pure (wpAny_pure q)) fun _ _ z => z)
  refine wpAny_mono (hi.run pins s σ H _ I h) (fun v s1 q1 => wpAny_mono q1 (fun itv s2 q2 => ?_) fun _ _ z => z) fun _ _ z => z
  obtain ⟨it, fp, tn, J, H2, rfl, I2, hT, t0, hfp, turns⟩ := q2
  refine wpAny_newObj_type (newEnv_comp ?_) (by show 0 ≤ sizeLine; decide)
  -- the list, the block
  obtain ⟨D0, hD0⟩ : ∃ D0, D0 = s2.heap.objs.size := ⟨_, rfl⟩
  have nD : H2 D0 = none := I2.hok.fresh (by rw [hD0]; exact Nat.le_refl _)
  obtain ⟨Wt, ⟨m0, w0⟩, turn⟩ := turns D0 nD
  obtain ⟨s3, hs3⟩ : ∃ s3 : Shared, s3 = { s2 with heap := s2.heap.push { cls := .type "list", data := .seq ([] : List Value).toArray } } := ⟨_, rfl⟩
  have kept : ∀ b o, s2.heap.get? b = some o → s3.heap.get? b = some o := fun b o e => by rw [hs3]; exact Heap.get?_push_of_some _ e
  have I3 : Inv X pins σ (upd H2 D0 (.lst [])) s3 := by
    have := I2.laid (a := D0) (o := .lst []) (t' := s2.toks) (h' := s3.heap) kept (by rw [hD0]; exact Nat.le_refl _) ⟨Nat.zero_le _, [], 0, .nil, by rw [hs3, hD0]; exact Heap.get?_push_size _ rfl⟩
    rw [hs3] at this ⊢
    exact this
  have small : ∀ b ∈ fp, b < s2.heap.objs.size := fun b hb => by
    obtain ⟨o, e, _⟩ := hT.obj _ _ t0 b hb
    exact Heap.lt_size e
  have hfp3 : ∀ b ∈ fp, FpOk X pins (upd H2 D0 (.lst [])) b ∧ b < s3.heap.objs.size := fun b hb => by
    have l := small b hb
    refine ⟨⟨?_, (hfp b hb).2⟩, by rw [hs3]; show b < (s2.heap.push _).objs.size; rw [Heap.size_push]; exact Nat.lt_succ_of_lt l⟩
    rw [upd_ne (by rw [hD0]; exact Nat.ne_of_lt l)]
    exact (hfp b hb).1
  suffices main : ∀ ce : Env, ce = compEnvC scope (cellsFrom (s3.heap.objs.size + 1) scope.names (cloFrom X.env.cells scope.names [])) s3.heap.objs.size X.env →
      codeAny (model X.prog X.w) X.A (.compStart (.ListComp elt [⟨tg, iter, ifs, 0⟩] scope pos) 0 (.ref it) (.ref D0) ce) (compEnds (model X.prog X.w) X.A X.xe (some (assign (.Name y py) X.env)) (fun _ s' => SP X pins D .next s') (.ref D0) ce) { s3 with heap := pushCells (s3.heap.push { cls := .type "dict", data := .dict #[] }) scope.names } by
    have := main _ rfl
    rw [hD0] at this
    subst hs3
    exact this
  intro ce hce
  have hloc : ce.locals = s3.heap.objs.size := by rw [hce]; rfl
  have I4 : Inv (blkx X s3 (upd H2 D0 (.lst [])) scope ce fp) [] (wipe σ (own.map (·.2))) (upd H2 D0 (.lst [])) { s3 with heap := pushCells (s3.heap.push { cls := .type "dict", data := .dict #[] }) scope.names } := by
    have := (block_start I3 ok hN hfp3).wish (fun u s' => notedBy (model X.prog X.w) X.A ce (CompFails (model X.prog X.w) X.A X.xe ce) u s')
    rw [← hce] at this
    exact this
  have t4 : tn 0 (pushCells (s3.heap.push { cls := .type "dict", data := .dict #[] }) scope.names) := hT.keep _ _ _ t0 fun b _ o e => pushCells_keeps _ _ _ _ (Heap.get?_push_of_some _ (kept b o e))
  have pb : Passes (L2.CX X.prog X.w) (blkx X s3 (upd H2 D0 (.lst [])) scope ce fp) E := passB (σ := σ) hst hfr tk (hW σ) I3 (by rw [hce]; rfl) hfp3
  have pg : PG (blkx X s3 (upd H2 D0 (.lst [])) scope ce fp) tg g := by rw [hce]; exact hg _ _ _ _ _
  have pt : PTs (blkx X s3 (upd H2 D0 (.lst [])) scope ce fp) ifs tt := by rw [hce]; exact ht _ _ _ _ _
  have pe : PE (blkx X s3 (upd H2 D0 (.lst [])) scope ce fp) elt te := by rw [hce] at pb ⊢; exact he _ _ _ _ _ pb
  have loop := blk_loop (iter := iter) (sc2 := scope) (pos := pos) (D := D0) (R := compEnds (model X.prog X.w) X.A X.xe (some (assign (.Name y py) X.env)) (fun _ s' => SP X pins D .next s') (.ref D0) ce) hT hc pg pt pe (fun e s' q => q) turn (fun H' s' I' q => ?_) ⟨I4, t4, fun b hb => (hfp3 b hb).1.1⟩ w0
  · exact codeAny_compStart_list loop (hT.self X.A 0 _ _ _ t4 loop)
  · have J := blk_back I3 (fun b hb => (hfp3 b hb).1) I'
    obtain ⟨m, hn, _⟩ := I'.loc
    have hn : s'.heap.Ns ce.locals m := hn
    have fC : FpOk X pins H' ce.locals := I3.fpOk (by rw [hloc]; exact Nat.le_refl _) I'.free
    obtain ⟨e1, e2, e3, e4, e5, e6⟩ := fC
    show wpAny (model X.prog X.w) X.A (assign (.Name y py) X.env (.ref D0)) _ _ s'
    refine wpAny_assign_Name (store_ok2 (v := V.ref D0) J hN hy (.inl hyl) rfl (fun s5 J5 hb => ?_) (.inr hyl))
    obtain ⟨a, sb, ha⟩ := hb
    have ne : ce.locals ≠ a := ha.elim (fun z => z ▸ e2) fun z k => e5 y a z k.symm
    refine ⟨m, hn.sameBut sb ne, fun h6 sb6 => ⟨_, H', ?_, q⟩⟩
    exact J5.turned (t' := s5.toks) (it := ce.locals) (fun b o hb e => (sb6.2 b hb).trans e) e1 e2 e4 e5 e6
end
end Vl
namespace Vl
open PySem PySem.Spec PyProof.Rows L2
section
variable {T : Tb} {X : Cx} {C : Addr} {nm : Str} {ex : Int → Prop} {i : Nat}
theorem s_setCLcX {ks : List Nat} {y : Str} {py : Pos} {elt tg iter : Expr} {ifs : List Expr} {scope : Scope} {own : List (Str × Nat)} {pos spos : Pos} {ai : AI} {ag : AG} {t : AT} {e : AE} (hst : X.stack = X.env :: X.outer) (hfr : X.env.frame = some X.env.locals) (tk : Takes X (xcWX C nm ex)) (hc : X.calm = true) (hN : X.N.Nodup) (hy : X.N[i]? = some y) (hyl : X.env.scope.names.lookup y = some .local)
    (hsw : swapsWith (.ListComp elt [⟨tg, iter, ifs, 0⟩] scope pos) (some (.Name y py)) spos.line X.env = pure true) (hi : PI X tg iter (rdIG T ai)) (ok : BlkOk X.N X.env.scope scope own) (hk : ∀ i ∈ ks, i ∈ own.map (·.2))
    (hg : ∀ (s : Shared) (H : Hp) (C : Addr) (cl : List (Str × Addr)) (fp : List Addr), PG (blkx X s H scope (compEnvC scope cl C X.env) fp) tg (rdG T ks ag)) (ht : ∀ (s : Shared) (H : Hp) (C : Addr) (cl : List (Str × Addr)) (fp : List Addr), PTs (blkx X s H scope (compEnvC scope cl C X.env) fp) ifs (rdT T t))
    (he : ∀ (s : Shared) (H : Hp) (C' : Addr) (cl : List (Str × Addr)) (fp : List Addr), Passes (L2.CX X.prog X.w) (blkx X s H scope (compEnvC scope cl C' X.env) fp) (xcW C nm ex) → PE (blkx X s H scope (compEnvC scope cl C' X.env) fp) elt (rdE T e)) (hs : ∀ x, foldedSetIterable iter X.env x = pure x := by intro _; rfl) :
    PS X (.Assign [.Name y py] (.ListComp elt [⟨tg, iter, ifs, 0⟩] scope pos) spos) (rdS T (aSetC i (aLc ai ag t e (own.map (·.2))))) := (s_compX (W := xcWX C nm ex) (E := xcW C nm ex) hst hfr tk (fun _ _ _ _ h => h) hc hN hy hyl hsw hi ok hg ht he hs).mono fun D σ H h => by
  obtain ⟨G, F, δ, E, R, h, k⟩ := h
  refine rd_lcG hk ⟨G, F, δ, _, R, h, fun w hw v F1 H1 g r => ?_⟩
  split at hw
  · rename_i d hd
    obtain ⟨F2, g2, r2⟩ := clW_rep g r hd
    exact k.nx _ hw F2 H1 _ g2.f ((R.go g2).put (a := .im d) ⟨v, rfl, r2⟩ fun _ _ e => nomatch e)
  · exact hw.elim
end
end Vl
set_option maxHeartbeats 2000000
/-! try: .. except .. as error: return isinstance(error, C) and error.name == .. and error.place == .. -/
namespace Vl
open PySem PySem.Spec PyProof.Rows L2
section
variable {X : Cx} {a C : Addr} {oe : Obj} {cls : Value} {d : Option Addr} {pn : List (Addr × Obj)}
/-- isinstance(error, c) -/
def rIsX (K : PySem.W.Frag) (C a : Addr) (cls : Value) (d : Option Addr) : List V → Hp → VK → Prop := fun xs H Q => ∃ (c : V) (cv : Value) (b : Bool) (dd : Addr) (fs : List (Str × V)), cls = .ref C ∧ d = some dd ∧ H dd = some (.xd fs) ∧ xs = [.ref a, c] ∧ (∀ u, RelV c u → u = cv) ∧ PySem.W.kitOne K (.ref C) cv = some b ∧ Q (.bl b) H
theorem call_isX (hC : ExcC X.K C) (hcl : (PySem.W.clsIn X.K C).isSome = true) (hz : Zc cls d oe) (hf : ∃ vs, oe.data = .fields vs) : CallR (X.suite a ((a, oe) :: pn)) (.builtin "isinstance") (rIsX X.K C a cls d) := by
  intro pins s σ H xs us Q I r h
  obtain ⟨c, cv, b, dd, fs, rfl, rfl, ea, rfl, hcv, e, q⟩ := h
  match r with
  | .cons rx (.cons rt .nil) =>
    cases rx
    have ec := hcv _ rt
    subst ec
    obtain ⟨hget, _⟩ := I.pin (a, oe) (List.mem_append_left _ List.mem_cons_self)
    obtain ⟨vs, hv⟩ := hf
    have hx : ObjOk X.prog X.w H s.heap dd (.xd fs) := I.hok dd _ ea
    obtain ⟨mA, hns, hr⟩ := hx
    obtain ⟨od, ho, hl⟩ := lookIn_ns hns
    have J : PySem.W.InstAt s.heap a oe C (some od) := ⟨hget, hz.1, by unfold PySem.W.notCls; rw [hv] <;> rfl, by rw [hz.2]; exact ho⟩
    exact PySem.W.kia_one (PySem.W.kitx_exc hcl hC.hg hC.hk hC.hs hC.ha hC.hn hC.ht hC.hm) I.kIn J e (fun z => nomatch z) fun tk => ⟨.bl b, H, I.kept (t' := tk) fun _ _ z => z, rfl, q⟩
end
/-! ### a def at the end of which True is told, whatever the heap -/
section
variable {T : Tb} {X : Cx} {st : Stmt} {rest : List Stmt} {s t : AS}
def rdST (T : Tb) (a : AS) : TS := fun D σ H => rdS T a D σ H ∧ ∀ H', D.rt (.bl true) H'
theorem st_last (h : PSs X rest (rdS T t)) : PSs X rest (rdST T t) := h.mono fun _ _ _ h => h.1
theorem st_cons (h1 : PS X st (rdS T s)) (h2 : PSs X rest (rdST T t)) : PSs X (st :: rest) (rdST T (aSeq s t)) := (pss_cons h1 h2).mono fun D σ H h => by
  obtain ⟨⟨G, F, δ, E, R, h, k⟩, top⟩ := h
  exact ⟨G, F, δ, _, R, h, ⟨fun δ' q F' H' σ' s R' => ⟨⟨G, F', δ', E, R', q, k.mono s⟩, top⟩, k.rt, k.bk, k.ct⟩⟩
theorem st_cut (h1 : PS X st (rdS T s)) (h2 : PSs X rest (rdST T t)) : PSs X (st :: rest) (rdST T (aCut s t)) := (pss_cons h1 h2).mono fun D σ H h => by
  obtain ⟨⟨G, F, δ, E, R, ⟨Mid, h, hm⟩, k⟩, top⟩ := h
  exact ⟨G, F, δ, _, R, h, ⟨fun δ' q F' H' σ' s R' => ⟨⟨G, F', δ', E, R', hm δ' q, k.mono s⟩, top⟩, k.rt, k.bk, k.ct⟩⟩
/-- the try statement is ahead of the rest -/
theorem st_try {u : TS} (h1 : PS X st u) (h2 : PSs X rest (rdST T t)) (hu : ∀ D σ H, rdST T s D σ H → u D σ H) : PSs X (st :: rest) (rdST T (aSeq s t)) := (pss_cons h1 h2).mono fun D σ H h => by
  obtain ⟨⟨G, F, δ, E, R, h, k⟩, top⟩ := h
  exact hu _ σ H ⟨⟨G, F, δ, _, R, h, ⟨fun δ' q F' H' σ' s R' => ⟨⟨G, F', δ', E, R', q, k.mono s⟩, top⟩, k.rt, k.bk, k.ct⟩⟩, top⟩
end
/-- the suite's answer -/
def tSuite (K : PySem.W.Frag) (C : Addr) (nm : Str) (i jy : Nat) (a : Addr) (cls : Value) (d : Option Addr) : TS :=
  tRet (tAndV (tCB (rIsX K C a cls d) (tCons (tVar i) (tCons (tC (.ref C)) tNil))) (tAndV (tOp rEq (tXf a cls d C "name" (tVar i)) (tC (.str nm))) (tOp rEq (tXf a cls d C "place" (tVar i)) (tVar jy))))
/-- try: g = f(xs) / except ..: the place is the one that slot jy holds -/
def aTryRd (i : Nat) (c : CtE) (xs : AA) (ag : AG) (jy : Nat) : AS := fun E δ => i < δ.length ∧ xs δ fun ws => c ws (fun w => match argW w with
  | .cl d => ag d δ E.nx
  | _ => False) fun p => gt δ jy = .im (.int p)
section
variable {T : Tb} {X : Cx} {C D0 : Addr} {nm : Str} {i jy : Nat} {c : CtE} {xs : AA} {ag : AG} {ks : List Nat}
theorem suite_ok {a : Addr} {oe : Obj} {cls : Value} {d : Option Addr} {pn : List (Addr × Obj)} {er iv py : Str} {q0 q1 q2 q3 q4 q5 q6 q7 q8 q9 q10 q11 q12 q13 : Pos} {j : Nat} (hC : ExcC X.K C) (hcl : (PySem.W.clsIn X.K C).isSome = true) (xf : XfC X.K C) (hnn : PySem.W.findIn X.K (.ref C) "name" = some none) (hnp : PySem.W.findIn X.K (.ref C) "place" = some none)
    (hz : Zc cls d oe) (hf : ∃ vs, oe.data = .fields vs) (hb : bootBuiltins "isinstance" = some (.builtin "isinstance")) (gi : Gl X "isinstance") (mi : X.mg "isinstance" = none) (gC : Gl X iv) (mC : X.mg iv = some (.ref C)) (hdb : (iv == ("__debug__" : Str)) = false)
    (he : PE (X.suite a ((a, oe) :: pn)) (.Name er q2) (tVar i)) (he2 : PE (X.suite a ((a, oe) :: pn)) (.Name er q5) (tVar i)) (he3 : PE (X.suite a ((a, oe) :: pn)) (.Name er q9) (tVar i)) (hy : PE (X.suite a ((a, oe) :: pn)) (.Name py q11) (tVar jy)) :
    PSs (X.suite a ((a, oe) :: pn)) [.Return (some (.BoolOp .And [.Call (.Name "isinstance" q1) [.Name er q2, .Name iv q3] [] q4, .Compare (.Attribute (.Name er q5) "name" q6) [.Eq] [.Constant (.str nm) j q7] q8, .Compare (.Attribute (.Name er q9) "place" q10) [.Eq] [.Name py q11] q12] q13)) q0] (tSuite X.K C nm i jy a cls d) :=
  pss_one (ps_ret (pe_and (pe_callB (call_isX hC hcl hz hf) gi mi hb (pa_cons he (pa_cons (pe_glob gC mC rfl hdb) pa_nil))) (pe_and (pe_cmpR op_eq (pe_xf xf hnn hz hf he2) pe_str (nomark _)) (pe_one (pe_cmpR op_eq (pe_xf xf hnp hz hf he3) hy (nomark _))))))
theorem rd_try {Wout : WX} {D : Ends} {σ : L2.St} {H : Hp} {K : PySem.W.Frag} (hm : PySem.W.exmOne K (.ref C) (.ref D0) = some true) (hk : PySem.W.kitOne K (.ref C) (.ref C) = some true) (hj : jy ≠ i) (h : rdST T (aTryRd i c xs ag jy) D σ H) :
    tAsg (tCallS (spE T C nm c) (WE (wAs K (.ref D0) i (fun a cls d => tSuite K C nm i jy a cls d) Wout D)) (rdA T xs)) (rdG T ks ag) D σ H := by
  obtain ⟨⟨G, F, δ, E, R, ⟨hi, h⟩, k⟩, top⟩ := h
  have hi : i < σ.length := R.len ▸ hi
  refine ⟨G, F, δ, _, R, h, fun ws hw vs F1 H1 g r => ?_⟩
  refine ⟨G, F1, ws, _, _, g.ex, r, hw, fun w hP v F2 H2 g2 r2 => ?_, fun cls d H' hx => ?_⟩
  · have r3 : RepW T G H F2 H2 v w := (RepR.toW r2).back g.h
    obtain ⟨F3, g3, _, _, r4, _⟩ := RepW.arg (g.trans g2) r3
    split at hP
    · rename_i e he
      rw [he] at r4
      exact ⟨G, F3, δ, _, e, R.go g3, r4, hP, fun δ' q σ' _ R' => k.nx _ q F3 H2 σ' g3.f R'⟩
    · exact hP.elim
  · obtain ⟨dd, p, rfl, rfl, ea, hp⟩ := hx
    have sj := R.sl jy
    rw [hp] at sj
    obtain ⟨v, hv, rv⟩ := sj
    cases rv
    have hv2 : σ[jy]? = some (some (.int p)) := by
      unfold gs at hv
      rw [List.getD_eq_getElem?_getD] at hv
      cases e : σ[jy]? with
      | none => rw [e] at hv; cases hv
      | some z => rw [e] at hv; rw [show z = some (.int p) from hv]
    refine ⟨true, hm, fun _ a na => ?_, fun z => nomatch z⟩
    have si : (σ.set i (some (.ref a)))[i]? = some (some (.ref a)) := List.getElem?_set_self hi
    have sjj : (σ.set i (some (.ref a)))[jy]? = some (some (.int p)) := by rw [List.getElem?_set_ne (Ne.symm hj)]; exact hv2
    have suite : tSuite K C nm i jy a (.ref C) (some dd) { nx := fun σ' H' => D.nx (σ'.set i none) H', rt := D.rt, bk := fun σ' H' => D.bk (σ'.set i none) H', ct := fun σ' H' => D.ct (σ'.set i none) H' } (σ.set i (some (.ref a))) H' := by
      refine ⟨.ref a, si, .ref C, .ref C, true, dd, exFs nm (.int p), rfl, rfl, ea, rfl, fun u r => r, hk, true, rfl, ?_⟩
      refine ⟨.ref a, si, rfl, rfl, dd, exFs nm (.int p), .str nm, rfl, ea, rfl, rfl, true, by rw [decide_eq_true rfl], ?_⟩
      refine ⟨.ref a, si, rfl, rfl, dd, exFs nm (.int p), .int p, rfl, ea, rfl, .int p, sjj, rfl, ?_⟩
      rw [decide_eq_true rfl]
      exact top H'
    exact suite
/-- the statement, and what comes behind it -/
theorem s_tryRd {rest : List Stmt} {t : AS} {body : List Stmt} {mx er iv py : Str} {np pos' pos'' q0 q1 q2 q3 q4 q5 q6 q7 q8 q9 q10 q11 q12 q13 : Pos} {j : Nat} (hs : X.stack = X.env :: X.outer) (hf : X.env.frame = some X.env.locals) (hN : X.N.Nodup) (hi : X.N[i]? = some er) (hln : X.env.kindOf er = some .local) (hmx : Names X mx (.ref D0)) (hj : jy ≠ i)
    (hC : ExcC X.K C) (hcl : (PySem.W.clsIn X.K C).isSome = true) (xf : XfC X.K C) (hnn : PySem.W.findIn X.K (.ref C) "name" = some none) (hnp : PySem.W.findIn X.K (.ref C) "place" = some none) (hm : PySem.W.exmOne X.K (.ref C) (.ref D0) = some true) (hk1 : PySem.W.kitOne X.K (.ref C) (.ref C) = some true)
    (hb : bootBuiltins "isinstance" = some (.builtin "isinstance")) (gi : Gl X "isinstance") (mi : X.mg "isinstance" = none) (gC : Gl X iv) (mC : X.mg iv = some (.ref C)) (hdb : (iv == ("__debug__" : Str)) = false)
    (he : ∀ (a : Addr) (oe : Obj) (pn : List (Addr × Obj)) (q : Pos), PE (X.suite a ((a, oe) :: pn)) (.Name er q) (tVar i)) (hy : ∀ (a : Addr) (oe : Obj) (pn : List (Addr × Obj)) (q : Pos), PE (X.suite a ((a, oe) :: pn)) (.Name py q) (tVar jy))
    (hbody : ∀ (W : WX) (pn : List (Addr × Obj)) (xe : Value → Shared → Prop), Takes (X.tr pn xe) W → PSs (X.tr pn xe) body (tAsg (tCallS (spE T C nm c) (WE W) (rdA T xs)) (rdG T ks ag)))
    (h2 : PSs X rest (rdST T t)) :
    PSs X (.Try body [.ExceptHandler (some (.Name mx np)) (some er) [.Return (some (.BoolOp .And [.Call (.Name "isinstance" q1) [.Name er q2, .Name iv q3] [] q4, .Compare (.Attribute (.Name er q5) "name" q6) [.Eq] [.Constant (.str nm) j q7] q8, .Compare (.Attribute (.Name er q9) "place" q10) [.Eq] [.Name py q11] q12] q13)) q0] pos'] [] [] pos'' :: rest) (rdST T (aSeq (aTryRd i c xs ag jy) t)) := by
  have tk : Takes X (fun _ _ _ _ => False) := fun u s' ⟨_, _, _, _, _, _, _, _, _, _, _, _, _, _, _, _, w⟩ => w.elim
  refine st_try (ps_try_as (tb := fun W => tAsg (tCallS (spE T C nm c) (WE W) (rdA T xs)) (rdG T ks ag)) (ts := fun a cls d => tSuite X.K C nm i jy a cls d) hs hf hN hi hln hmx tk (fun W pn xe tkW _ => hbody W pn xe tkW) fun a oe cls d pn hz hv => ?_) h2 fun D σ H h => ?_
  · exact suite_ok hC hcl xf hnn hnp hz hv hb gi mi gC mC hdb (he _ _ _ _) (he _ _ _ _) (he _ _ _ _) (hy _ _ _ _)
  · exact rd_try hm hk1 hj h
end
end Vl
set_option maxHeartbeats 2000000
/-! a part of a text -/
namespace Vl
open PySem PySem.Spec PyProof.Rows L2
def aSlS (e : AE) (lo hi : AO) : AE := fun δ Q => e δ fun w => lo δ fun l => hi δ fun h => match w with
  | .cl (.str z) => z.length ≤ 1000000 ∧ Q (.cl (.str (cutS z l h)))
  | _ => False
section
variable {T : Tb} {X : Cx} {e : Expr} {x : AE} {pos p2 : Pos}
theorem e_slS {lo hi : Option Expr} {l h : AO} (he : PE X e (rdE T x)) (hl : PO X lo (rdO T l)) (hh : PO X hi (rdO T h)) : PE X (.Subscript e (.Slice lo hi none p2) pos) (rdE T (aSlS x l h)) := (pe_slice sl_str he hl hh).mono fun σ H Q h => by
  obtain ⟨G, F, δ, P, R, h, k⟩ := h
  refine ⟨G, F, δ, _, R, h, fun w hw v F1 H1 g r => ?_⟩
  refine ⟨G, F1, δ, _, R.go g, hw, fun lo hlo F2 H2 g2 => ?_⟩
  refine ⟨G, F2, δ, _, (R.go g).go g2, hlo, fun hi hhi F3 H3 g3 => ?_⟩
  split at hhi
  · rename_i z
    cases r
    exact ⟨z, rfl, Nat.le_trans hhi.1 (by decide), k _ hhi.2 _ F3 H3 (g.trans (g2.trans g3)) (Rep.str _)⟩
  · exact hhi.elim
end
end Vl
set_option maxHeartbeats 2000000
/-! the law that catches -/
namespace Vl
open PySem PySem.Spec PyProof.Rows L2 PySem.Calls
section
variable {P : Program} {wd : World} {K : PySem.W.Frag} {mg : Str → Option Value} {base : Heap} {T : Tb} {f : Addr} {fd : FuncData} {k : Nat}
def spLaw (K : PySem.W.Frag) : Sp := fun vs H Q _ => ∃ (a : Addr) (ns : List Int), vs = [.ref a] ∧ SqL K H a (ns.map V.int) ∧ ns.length ≤ 63 ∧ ∀ H', Q (.bl true) H'
theorem fn_okLaw {y qual : Str} {st : Stmt} {N : List Str} {p : Str} {a : AS} {c : Ct} (hTK : T.K = K) (Fn : Fun K y qual st f fd) (S : FnScope N [p] (defScope st)) (hN : 1 ≤ N.length)
    (hd : ∀ (cdv : Value) (A : Around) (outer : List Env) (s : Shared) (H : Hp) (E : XK), Room k (A.deeper (envOfC qual (defScope st) s.heap.objs.size f cdv)) →
      PSs (cxOf CX0 P wd K mg base N qual (defScope st) f cdv A outer s H E).nox (defBody st) (rdST T a))
    (hw : ∀ (ns : List Int) (P : W → Prop), ns.length ≤ 63 → P (.cl (.bl true)) → a { nx := fun _ => P (.cl .non), rt := fun w _ => P w } (startA N.length [.cl (.scr ns)])) : FnOk P wd K mg base CX0 (k + 1) f fd [p] (spLaw K) := by
  refine Fn.ok S (fun vs H Q E h => ?_) (fun cdv A outer s H vs Q E hr h => ?_)
  · obtain ⟨a, ns, rfl, _⟩ := h
    rfl
  · obtain ⟨b, ns, rfl, hS, hl, q⟩ := h
    refine ⟨_, hd cdv A outer s H E hr, ?_⟩
    have R := repS_start (T := T) (G := ⟨H, H, [], .non⟩) (F := H) (H := H) (Same.refl _) (.cons (.scr (hTK ▸ hS)) .nil : RepAs T ⟨H, H, [], .non⟩ H H [.ref b] [.cl (.scr ns)]) hN N rfl
    have go : ∀ {F' H' : Hp} {σ' : L2.St} {δ' : List AV}, RepS T ⟨H, H, [], .non⟩ F' H' σ' δ' → Go H H F' H' := fun {F' H' σ' δ'} R' => ⟨fun a o e => R'.fr a o e (by simp), R'.f0, R'.ex, fun a h n => R'.fn a h (fun z => nomatch z) (Same.nt (fun b o e => R'.fr b o e (by simp)) h n)⟩
    refine ⟨⟨_, H, _, { nx := fun _ => W.cl .non = .cl (.bl true), rt := fun w _ => w = .cl (.bl true) }, R, hw ns (fun w => w = .cl (.bl true)) hl rfl, ?_⟩, fun H' => q H'⟩
    exact ⟨fun δ' z => absurd z (fun y => nomatch y), fun w δ' z v F' H' σ' s R' r' _ => by
      subst z
      cases r'
      exact q H', fun δ' q => q.elim, fun δ' q => q.elim⟩
end
section
variable {P : Program} {K : PySem.W.Frag} {D f : Addr} {fd : FuncData} {x qual : Str} {st : Stmt}
theorem SupF.binds {ps : List Str} (S : SupF P K x qual st f fd D)
    (h : ∀ (dV kV doc pm : Value) (an : Option Addr) (cda : Addr) (ct : Value) (cc : Addr) (us : List Value), us.length = ps.length → bindArgs (PySem.W.ksFn x qual (defArgs st) (defBody st) (defScope st) dV kV doc pm an (.ref cda) ct cc) ⟨us, []⟩ = pure (ps.zip us)) : Binds K fd ps [] := by
  obtain ⟨oc, od, dV, kV, doc, pm, an, cda, cc, ct, osl, ccl, cdd, vs, ccs, file, tf, cl, cld, csl, rfl, _⟩ := S.ex
  exact .all (h dV kV doc pm an cda ct cc)
theorem binds3 (B : Binds K fd ["self", "place", "name"] []) (s' : Shared) (a b c : Value) (X : K.In s'.heap) : BindsTo s' fd ⟨[a, b, c], []⟩ [("self", a), ("place", b), ("name", c)] := B s' [a, b, c] X rfl
theorem supf_mk {oc dV kV doc pm ct ccl cl : Value} {od an cdd cld : Option Addr} {cda cc : Addr} {osl ccs csl : Array (Option Value)} {vs : Array Value} {file : Str} {tf : Tok}
    (l : K.lookup f = some ⟨oc, od, .func (PySem.W.ksFn x qual (defArgs st) (defBody st) (defScope st) dV kV doc pm an (.ref cda) ct cc), osl⟩) (c : PySem.W.codeIn K (.ref cda) qual = true) (lc : K.lookup cda = some ⟨ccl, cdd, .fields vs, ccs⟩) (v2 : vs[2]? = some (.str file tf)) (hf : ((P.main.file : Str) == file) = true)
    (lcc : K.lookup cc = some ⟨cl, cld, .cell (some (.ref D)), csl⟩) : SupF P K x qual st f (PySem.W.ksFn x qual (defArgs st) (defBody st) (defScope st) dV kV doc pm an (.ref cda) ct cc) D :=
  ⟨oc, od, dV, kV, doc, pm, an, cda, cc, ct, osl, ccl, cdd, vs, ccs, file, tf, cl, cld, csl, rfl, l, c, lc, v2, hf, lcc⟩
end
end Vl
namespace Vl
open PySem PySem.Spec PyProof.Rows L2
/-- numbers that are drawn: any in their bounds -/
def c__law_draw : Ct := fun ws Q => ∃ c n b : Int, ws = [.cl (.int c), .cl (.int n), .cl (.int b)] ∧ (0 ≤ n ∧ n ≤ 1000) ∧ 0 < b ∧ b < 1073741824 ∧
  ∀ xs : List Int, xs.length = n.toNat → (∀ x ∈ xs, 0 ≤ x ∧ x < b) → Q (.fr (.fl (xs.map .int)))
theorem l__law_draw : ∀ ws P, c__law_draw ws P → ws.length = 3 := by rintro ws P ⟨c, n, b, rfl, _⟩; rfl
def cellN (ns : List Int) (k : Int) : Int := ns.getD k.toNat 0
def c__law_cell : Ct := fun ws Q => ∃ (ns : List Int) (k : Int), ws = [.cl (.scr ns), .cl (.int k)] ∧ 0 ≤ k ∧ Q (.cl (.int (cellN ns k)))
theorem l__law_cell : ∀ ws P, c__law_cell ws P → ws.length = 2 := by rintro ws P ⟨ns, k, rfl, _⟩; rfl
def c__law_is_integer : Ct := fun ws Q => ∃ d, ws = [.cl d] ∧ ((∃ i, d = .int i ∧ Q (.cl (.bl true))) ∨ (d = .non ∧ Q (.cl (.bl false))) ∨ (∃ b, d = .bl b ∧ Q (.cl (.bl false))))
theorem l__law_is_integer : ∀ ws P, c__law_is_integer ws P → ws.length = 1 := by rintro ws P ⟨d, rfl, _⟩; rfl
end Vl
local macro_rules | `(tactic| walk_at "vs") => `(tactic| simp only [Vl.aSeq, Vl.aFor_eq, Vl.aIf, Vl.aB, Vl.aBin, Vl.aUn, Vl.aV, Vl.slotW, Vl.gt_z, Vl.gt_s, Vl.aCB, Vl.aCall, Vl.aCons, Vl.aNil, Vl.argW, Vl.dLt_eq, Vl.dLe_eq, Vl.dGt_eq, Vl.dGe_eq, Vl.dI0, Vl.dI, Vl.dAdd, Vl.dSub_eq, Vl.dMul, Vl.dDiv_eq, Vl.dMod_eq, Vl.dPow_eq, Vl.dShl_eq, Vl.dNeg, Vl.dNot, Vl.dIsN, Vl.dNotN, Vl.dEq, Vl.dNe, Vl.dIn, Vl.dIx, Vl.fLen_lst, Vl.fLen_tup, Vl.fLen_ow, Vl.fLen_bw, Vl.fLen_scr, Vl.fLen_str, Vl.fInt_int, Vl.fInt_bl, Vl.fAbs_int, Vl.fMax_int, Vl.fMin_int, Vl.fGcd_int, Vl.fLcm_int, Vl.fList_lst, Vl.fList_tup, Vl.fList_ow, Vl.fList_bw, Vl.fList_scr, Vl.seqC, Vl.lstC, Vl.itemsC, Vl.clW, Vl.W.toD, Vl.M.toD, Vl.clDs, Option.map_some, Option.map_none,
  Vl.aRet, Vl.aRetV, Vl.aRetN, Vl.aNext, Vl.aBreak, Vl.aCont, Vl.aC, Vl.aSet, Vl.aSetC, Vl.slotA, Vl.aDrop, Vl.aAsgG, Vl.agN, Vl.agT, Vl.agCons, Vl.agNil, Vl.iLst, Vl.iTup, Vl.iR1, Vl.iR2, Vl.aTup, Vl.aLst, Vl.aAnd, Vl.aOr, Vl.aNot, Vl.aAndV, Vl.aOrV, Vl.aIfE, Vl.aSl, Vl.aoS, Vl.aoN, Vl.aChain, Vl.aAugAdd, Vl.aAugSub, Vl.aMut, Vl.aMutS, Vl.mAppend, Vl.mPop, Vl.mPopAt, Vl.mReverse, Vl.tyM, Vl.aFrz, Vl.frz, Vl.aSetIx, Vl.aLc, Vl.wipeA, Vl.aYes,
  List.set_cons_zero, List.set_cons_succ, List.length_map, List.length_cons, List.length_nil, decide_eq_true_eq, Bool.not_true, Bool.not_false, if_true, if_false, Bool.false_eq_true, Vl.okD_int, Vl.okD_bl, Vl.okD_non, Vl.eqD_int, Vl.eqD_bl, Vl.eqD_non, true_and, and_true, Vl.snoc_int, Vl.aIsi, Vl.isi_bl_bool, Vl.isi_bl_int, Vl.isi_int_int, Vl.isi_int_bool, Vl.isi_non_int, Vl.isi_non_bool, Vl.isi_lst_list, Vl.isi_tup_list, Vl.isi_tup_tuple, Vl.isi_non_tuple, Vl.isi_non_list, Vl.isi_str_str, Vl.isi_lst_bool, Vl.isi_str_bool, Vl.isi_tup_bool, Vl.ixD_0, Vl.ixD_1, Vl.ixD_2, Vl.ixD_3, Vl.ixD_4, Vl.ixD_5, Vl.ixD_6, Vl.ixD_7, Vl.ixD_8, Vl.ixD_9, Vl.ixD_10, Vl.ixD_11, Vl.aFld, Vl.aMeth, Vl.aMake, Vl.aMakeK, Vl.mInsert, Vl.aIndex, Vl.fMax1_eq, Vl.fSorted_eq, List.getElem?_cons_zero, List.getElem?_cons_succ, List.cons_append, List.nil_append, Vl.aPar, Vl.aIsO, Vl.dNeS, Vl.aDNew, Vl.dEqO, Vl.aDGet, Vl.aDIx, Vl.dInD, Vl.kidsW, Vl.keyO, Vl.keyF, Vl.keysF, Vl.getK_map, Vl.M.toDs, Vl.refM, Vl.bwM, Vl.owM, Vl.aMakeO, Vl.aSetX, Vl.aSetCX, Vl.aDropX, Vl.aRetX, Vl.aAsgGX, Vl.aIfX, Vl.xP, Vl.tP, Vl.aBX, Vl.aAndX, Vl.aOrX, Vl.aNotX, Vl.aBinX, Vl.aCallL, Vl.aMethL, Vl.alHere, Vl.alCons, Vl.setP, Vl.apV, Vl.apFld, Vl.apIx, Vl.apKey, Vl.aMutP, Vl.aFSet, Vl.aDPutP, Vl.kidW, Vl.putM, Vl.dctM, Vl.aLstO, Vl.aoCons, Vl.aoNil, Vl.aDisp, Vl.dispGo, Vl.iLstG, Vl.xMut, Vl.fLenD, Vl.one, Vl.mRemove, Vl.apW, Vl.allW_nil, Vl.allW_cons, Vl.anHere, Vl.anCons, Vl.aCallN, Vl.aCallF, Vl.clAlls, Vl.clAll, Vl.flatW, Vl.flatD, Vl.flatDs, Bool.and_true, Bool.true_and, Vl.aDNewM, Vl.fSortT_eq, Vl.fSortDT_eq, Vl.fMinD_eq, Vl.fMaxD_eq, Vl.aForX_eq, Vl.aCallK, Vl.aCallD, Vl.xSortPop, Vl.dEqS, Vl.aSlT, Vl.aClE, Vl.aLenSet, Vl.aMakeD])
namespace Vl
open PySem PySem.Spec PyProof.Rows L2
/-- _law_cell: slots 0=_law_script 1=_law_k -/
def a__law_cell : AS :=
  aSeq (aIf (aB (aBin (dLt) (aV 1) (aCB fLen1 (aCons (aV 0) (aNil))))) (aRet (aBin dIx (aV 0) (aV 1))) (aNext)) (aRet (aC (.int 0)))
theorem w__law_cell : ∀ ws P, c__law_cell ws P → a__law_cell { nx := fun _ => P (.cl .non), rt := fun w _ => P w } (startA 2 ws) := by
  rintro ws P ⟨ns, k, rfl, hk, h⟩
  show a__law_cell _ [.im (.scr ns), .im (.int k)]
  unfold a__law_cell
  walk_at "vs"
  split
  · rename_i hl
    have e : ixD (ns.map D.int) k = some (.int (cellN ns k)) := by
      have hk2 : k.toNat < ns.length := by omega
      unfold ixD cellN
      rw [if_pos hk, List.getElem?_map, List.getElem?_eq_getElem hk2, List.getD_eq_getElem?_getD, List.getElem?_eq_getElem hk2]
      rfl
    rw [e]; exact h
  · rename_i hl
    have e : cellN ns k = 0 := by
      unfold cellN
      rw [List.getD_eq_getElem?_getD, List.getElem?_eq_none_iff.mpr (by omega)]
      rfl
    rw [e] at h; exact h
/-- _law_draw: slots 0=_law_cell_here 1=_law_many 2=_law_bound 3=_law_numbers_here 4=_law_k 5=_law_seed 6=_law_mixed -/
def a__law_draw : AS :=
  aSeq (aSet 3 (aLst (aNil))) (aSeq (aIf (aB (aBin (dGe) (aV 0) (aBin dPow (aC (.int 10)) (aC (.int 18))))) (aSeq (aFor (iR1 (aCons (aV 1) (aNil))) (agN 4) (aSeq (aMut "list" 3 mAppend (aCons (aBin dMod (aCB fInt (aCons (aV 0) (aNil))) (aV 2)) (aNil))) (aSetC 0 (aBin dDiv (aV 0) (aV 2))))) (aRetV 3)) (aNext)) (aSeq (aSetC 5 (aBin dMod (aCB fInt (aCons (aV 0) (aNil))) (aC (.int 2147483647)))) (aSeq (aFor (iR1 (aCons (aV 1) (aNil))) (agN 4) (aSeq (aSetC 5 (aBin dMod (aCB fInt (aCons (aBin dAdd (aBin dAdd (aBin dMul (aV 5) (aC (.int 48271))) (aC (.int 12345))) (aV 4)) (aNil))) (aC (.int 2147483647)))) (aSeq (aSetC 6 (aBin dMod (aCB fInt (aCons (aBin dAdd (aBin dMul (aV 5) (aC (.int 69621))) (aBin dMul (aC (.int 977)) (aV 4))) (aNil))) (aC (.int 2147483629)))) (aMut "list" 3 mAppend (aCons (aBin dMod (aCB fInt (aCons (aBin dDiv (aV 6) (aC (.int 3))) (aNil))) (aV 2)) (aNil)))))) (aRetV 3))))
theorem w__law_draw : ∀ ws P, c__law_draw ws P → a__law_draw { nx := fun _ => P (.cl .non), rt := fun w _ => P w } (startA 7 ws) := by
  rintro ws P ⟨c, n, b, rfl, ⟨hn0, hn⟩, hb, hb2, h⟩
  show a__law_draw _ [.im (.int c), .im (.int n), .im (.int b), .non, .non, .non, .non]
  unfold a__law_draw
  walk_at "vs"
  have key : ∀ (xs : List Int), (∀ x ∈ xs, 0 ≤ x ∧ x < b) → ∀ y : Int, ∀ x ∈ xs ++ [y % b], 0 ≤ x ∧ x < b := by
    intro xs hx y x hm
    rcases List.mem_append.mp hm with q | q
    · exact hx x q
    · rw [List.mem_singleton.mp q]
      exact ⟨Int.emod_nonneg _ (by omega), Int.emod_lt_of_pos _ hb⟩
  refine ⟨by omega, ⟨by omega, by omega, by decide⟩, ?_⟩
  split
  · refine ⟨by omega, for_up (fun i δ => ∃ (c' : Int) (xs : List Int) (a : AV), δ = [.im (.int c'), .im (.int n), .im (.int b), .ow false (.fl (xs.map .int)), a, .non, .non] ∧ xs.length = i ∧ ∀ x ∈ xs, 0 ≤ x ∧ x < b)
      ⟨c, [], _, rfl, rfl, fun x hx => nomatch hx⟩ ?_ ?_⟩
    · rintro i δ hi ⟨c', xs, a, rfl, hl, hx⟩
      walk_at "vs"
      refine ⟨hb, by omega, ⟨hb, hb2⟩, c' / b, xs ++ [c' % b], _, rfl, by simp [hl], key xs hx c'⟩
    · rintro δ ⟨c', xs, a, rfl, hl, hx⟩
      walk_at "vs"
      exact h xs (by omega) hx
  · refine ⟨by omega, by omega, for_up (fun i δ => ∃ (s : Int) (xs : List Int) (a a' : AV), δ = [.im (.int c), .im (.int n), .im (.int b), .ow false (.fl (xs.map .int)), a, .im (.int s), a'] ∧ xs.length = i ∧ ∀ x ∈ xs, 0 ≤ x ∧ x < b)
      ⟨_, [], _, _, rfl, rfl, fun x hx => nomatch hx⟩ ?_ ?_⟩
    · rintro i δ hi ⟨s, xs, a, a', rfl, hl, hx⟩
      walk_at "vs"
      refine ⟨.inr (by decide), by omega, .inr (by decide), .inl (by decide), by omega, by decide, hb, by omega, _, xs ++ [_ % b], _, _, rfl, by simp [hl], key xs hx _⟩
    · rintro δ ⟨s, xs, a, a', rfl, hl, hx⟩
      walk_at "vs"
      exact h xs (by omega) hx
end Vl
local macro_rules | `(tactic| walk_at "vs") => `(tactic| simp only [Vl.aSeq, Vl.aFor_eq, Vl.aIf, Vl.aB, Vl.aBin, Vl.aUn, Vl.aV, Vl.slotW, Vl.gt_z, Vl.gt_s, Vl.aCB, Vl.aCall, Vl.aCons, Vl.aNil, Vl.argW, Vl.dLt_eq, Vl.dLe_eq, Vl.dGt_eq, Vl.dGe_eq, Vl.dI0, Vl.dI, Vl.dAdd, Vl.dSub_eq, Vl.dMul, Vl.dDiv_eq, Vl.dMod_eq, Vl.dPow_eq, Vl.dShl_eq, Vl.dNeg, Vl.dNot, Vl.dIsN, Vl.dNotN, Vl.dEq, Vl.dNe, Vl.dIn, Vl.dIx, Vl.fLen_lst, Vl.fLen_tup, Vl.fLen_ow, Vl.fLen_bw, Vl.fLen_scr, Vl.fLen_str, Vl.fInt_int, Vl.fInt_bl, Vl.fAbs_int, Vl.fMax_int, Vl.fMin_int, Vl.fGcd_int, Vl.fLcm_int, Vl.fList_lst, Vl.fList_tup, Vl.fList_ow, Vl.fList_bw, Vl.fList_scr, Vl.seqC, Vl.lstC, Vl.itemsC, Vl.clW, Vl.W.toD, Vl.M.toD, Vl.clDs, Option.map_some, Option.map_none,
  Vl.aRet, Vl.aRetV, Vl.aRetN, Vl.aNext, Vl.aBreak, Vl.aCont, Vl.aC, Vl.aSet, Vl.aSetC, Vl.slotA, Vl.aDrop, Vl.aAsgG, Vl.agN, Vl.agT, Vl.agCons, Vl.agNil, Vl.iLst, Vl.iTup, Vl.iR1, Vl.iR2, Vl.aTup, Vl.aLst, Vl.aAnd, Vl.aOr, Vl.aNot, Vl.aAndV, Vl.aOrV, Vl.aIfE, Vl.aSl, Vl.aoS, Vl.aoN, Vl.aChain, Vl.aAugAdd, Vl.aAugSub, Vl.aMut, Vl.aMutS, Vl.mAppend, Vl.mPop, Vl.mPopAt, Vl.mReverse, Vl.tyM, Vl.aFrz, Vl.frz, Vl.aSetIx, Vl.aLc, Vl.wipeA, Vl.aYes,
  List.set_cons_zero, List.set_cons_succ, List.length_map, List.length_cons, List.length_nil, decide_eq_true_eq, Bool.not_true, Bool.not_false, if_true, if_false, Bool.false_eq_true, Vl.okD_int, Vl.okD_bl, Vl.okD_non, Vl.eqD_int, Vl.eqD_bl, Vl.eqD_non, true_and, and_true, Vl.snoc_int, Vl.aIsi, Vl.isi_bl_bool, Vl.isi_bl_int, Vl.isi_int_int, Vl.isi_int_bool, Vl.isi_non_int, Vl.isi_non_bool, Vl.isi_lst_list, Vl.isi_tup_list, Vl.isi_tup_tuple, Vl.isi_non_tuple, Vl.isi_non_list, Vl.isi_str_str, Vl.isi_lst_bool, Vl.isi_str_bool, Vl.isi_tup_bool, Vl.ixD_0, Vl.ixD_1, Vl.ixD_2, Vl.ixD_3, Vl.ixD_4, Vl.ixD_5, Vl.ixD_6, Vl.ixD_7, Vl.ixD_8, Vl.ixD_9, Vl.ixD_10, Vl.ixD_11, Vl.aFld, Vl.aMeth, Vl.aMake, Vl.aMakeK, Vl.mInsert, Vl.aIndex, Vl.fMax1_eq, Vl.fSorted_eq, List.getElem?_cons_zero, List.getElem?_cons_succ, List.cons_append, List.nil_append, Vl.aPar, Vl.aIsO, Vl.dNeS, Vl.aDNew, Vl.dEqO, Vl.aDGet, Vl.aDIx, Vl.dInD, Vl.kidsW, Vl.keyO, Vl.keyF, Vl.keysF, Vl.getK_map, Vl.M.toDs, Vl.refM, Vl.bwM, Vl.owM, Vl.aMakeO, Vl.aSetX, Vl.aSetCX, Vl.aDropX, Vl.aRetX, Vl.aAsgGX, Vl.aIfX, Vl.xP, Vl.tP, Vl.aBX, Vl.aAndX, Vl.aOrX, Vl.aNotX, Vl.aBinX, Vl.aCallL, Vl.aMethL, Vl.alHere, Vl.alCons, Vl.setP, Vl.apV, Vl.apFld, Vl.apIx, Vl.apKey, Vl.aMutP, Vl.aFSet, Vl.aDPutP, Vl.kidW, Vl.putM, Vl.dctM, Vl.aLstO, Vl.aoCons, Vl.aoNil, Vl.aDisp, Vl.dispGo, Vl.iLstG, Vl.xMut, Vl.fLenD, Vl.one, Vl.mRemove, Vl.apW, Vl.allW_nil, Vl.allW_cons, Vl.anHere, Vl.anCons, Vl.aCallN, Vl.aCallF, Vl.clAlls, Vl.clAll, Vl.flatW, Vl.flatD, Vl.flatDs, Bool.and_true, Bool.true_and, Vl.aDNewM, Vl.fSortT_eq, Vl.fSortDT_eq, Vl.fMinD_eq, Vl.fMaxD_eq, Vl.aForX_eq, Vl.aCallK, Vl.aCallD, Vl.xSortPop, Vl.dEqS, Vl.aSlT, Vl.aClE, Vl.aLenSet, Vl.aMakeD])
namespace Vl
open PySem PySem.Spec PyProof.Rows L2

/-! ### nets as data -/
def kD (b : Bool) : D := .str (if b then "host" else "switch")
abbrev Ln := Int × Int × Int
def lnD (w : Ln) : D := .tup [.int w.1, .int w.2.1, .int w.2.2]
structure NetV where
  ks : List Bool
  ls : List Ln
  pr : Int
  er : Int
def netD (N : NetV) : D := .ins 0 [.lst (N.ks.map kD), .lst (N.ls.map lnD), .int N.pr, .int N.er]
/-- the first line that joins the two -/
def joinL (a b : Int) : List Ln → Option Int
  | [] => none
  | w :: r => if (w.1 = a ∧ w.2.1 = b) ∨ (w.1 = b ∧ w.2.1 = a) then some w.2.2 else joinL a b r
def joinN (N : NetV) (a b : Int) : Option Int := joinL a b N.ls
def normL (w : Ln) : Int × Int := if w.2.1 < w.1 then (w.1, w.2.1) else (w.2.1, w.1)
def hostN (N : NetV) (a : Int) : Bool := N.ks.getD a.toNat false
def optI : Option Int → D
  | none => .non
  | some i => .int i
structure NetOk (N : NetV) : Prop where
  n3 : 3 ≤ N.ks.length
  n7 : N.ks.length ≤ 7
  l21 : N.ls.length ≤ 21
  ln : ∀ w ∈ N.ls, (0 ≤ w.1 ∧ w.1 < N.ks.length) ∧ (0 ≤ w.2.1 ∧ w.2.1 < N.ks.length) ∧ w.1 ≠ w.2.1 ∧ 0 ≤ w.2.2 ∧ w.2.2 ≤ 4
  nd : (N.ls.map normL).Nodup
  pr0 : 0 ≤ N.pr
  pr2 : N.pr ≤ 2
  er0 : 0 ≤ N.er
  er2 : N.er ≤ 2
  sw : (N.ks.filter (!·)).length ≤ 3
theorem ixD_ints {xs : List Int} {i : Int} (h0 : 0 ≤ i) (h1 : i < xs.length) : ∃ v, ixD (xs.map D.int) i = some (.int v) ∧ v ∈ xs ∧ xs[i.toNat]? = some v := by
  have e : xs[i.toNat]? = some xs[i.toNat] := List.getElem?_eq_getElem (by omega)
  refine ⟨xs[i.toNat], ?_, List.getElem_mem _, e⟩
  unfold ixD
  rw [if_pos h0, List.getElem?_map, e]
  rfl
theorem ixD_map {α : Type} (f : α → D) {xs : List α} {i : Int} {v : α} (h0 : 0 ≤ i) (h1 : xs[i.toNat]? = some v) : ixD (xs.map f) i = some (f v) := by
  unfold ixD
  rw [if_pos h0, List.getElem?_map, h1]
  rfl
theorem ixD_kD {ks : List Bool} {i : Int} (h0 : 0 ≤ i) (h1 : i < ks.length) : ixD (ks.map kD) i = some (kD (ks.getD i.toNat false)) := by
  have h2 : i.toNat < ks.length := by omega
  refine ixD_map kD h0 ?_
  rw [List.getD_eq_getElem?_getD, List.getElem?_eq_getElem h2]
  rfl
theorem eqD_k (b : Bool) (x : Str) : eqD (kD b) (.str x) = decide ((if b then ("host" : Str) else "switch") = x) := eqD_str _ _
theorem eqD_kh (b : Bool) : eqD (kD b) (.str "host") = b := by cases b <;> decide
theorem eqD_ks (b : Bool) : eqD (kD b) (.str "switch") = !b := by cases b <;> decide
theorem eqD_kk (b c : Bool) : eqD (kD b) (kD c) = (b == c) := by cases b <;> cases c <;> decide
theorem okD_k (b : Bool) : okD (kD b) = true := okD_str _ (by cases b <;> decide +kernel)
theorem okD_p2 (a b : Int) : okD (.tup [.int a, .int b]) = true := (show dep 1 (.tup [.int a, .int b]) from dep_tup fun x hx => by
  simp only [List.mem_cons, List.not_mem_nil, or_false] at hx
  rcases hx with rfl | rfl <;> exact dep_int 0 _).1
theorem eqD_p2 (a b c d : Int) : eqD (.tup [.int a, .int b]) (.tup [.int c, .int d]) = decide (a = c ∧ b = d) := by
  have h1 := eqD_int a c
  have h2 := eqD_int b d
  have e : eqD (.tup [.int a, .int b]) (.tup [.int c, .int d]) = (eqD (.int a) (.int c) && (eqD (.int b) (.int d) && true)) := by
    unfold eqD
    simp [pd, pds, PyData.eqv, PyData.eqvAll]
  rw [e, h1, h2, Bool.and_true, Bool.decide_and]
/-- a list that is handed on: clean, borrowed, own -/
def RdL (w : W) (ds : List D) : Prop := w = .cl (.lst ds) ∨ w = .bw (.fl ds) ∨ w = .ow (.fl ds)
def c_Net___init__ : Ini := fun ws P => ∃ (wk wl : W) (kd ld : List D) (p e : Int), ws = [wk, wl, .cl (.int p), .cl (.int e)] ∧ RdL wk kd ∧ RdL wl ld ∧ P [.lst kd, .lst ld, .int p, .int e]
theorem l_Net___init__ : ∀ ws P, c_Net___init__ ws P → ws.length + 1 = 5 := by rintro ws P ⟨wk, wl, kd, ld, p, e, rfl, _⟩; rfl
/-- Net.__init__: slots 0=self 1=kinds 2=lines 3=processing 4=error -/
def a_Net___init__ : AF :=
  aFs (aF 0 (aCB fList (aCons (aV 1) (aNil)))) (aFs (aF 1 (aCB fList (aCons (aV 2) (aNil)))) (aFs (aF 2 (aV 3)) (aF 3 (aV 4))))
theorem w_Net___init__ : ∀ ws P, c_Net___init__ ws P → a_Net___init__ (.non :: ws.map avOf) [] fun ds => ds.length = 4 ∧ P ds := by
  rintro ws P ⟨wk, wl, kd, ld, p, e, rfl, h1, h2, h⟩
  unfold a_Net___init__ aFs aF
  rcases h1 with rfl | rfl | rfl <;> rcases h2 with rfl | rfl | rfl <;>
  · simp only [List.map_cons, List.map_nil, avOf]
    walk_at "vs"
    first | exact ⟨rfl, h⟩ | exact h | exact ⟨rfl, rfl, rfl, rfl, rfl, h⟩
def c_Net_delay : Ct := fun ws Q => ∃ (N : NetV) (a b : Int), ws = [.cl (netD N), .cl (.int a), .cl (.int b)] ∧ Q (.cl (optI (joinN N a b)))
theorem l_Net_delay : ∀ ws P, c_Net_delay ws P → ws.length = 3 := by rintro ws P ⟨N, a, b, rfl, _⟩; rfl
/-- Net.delay: slots 0=self 1=a 2=b 3=first 4=second 5=ticks -/
def a_Net_delay : AS :=
  aSeq (aFor (iLst (aFld 0 1 (aV 0))) (agT 3 (agCons (agN 3) (agCons (agN 4) (agCons (agN 5) (agNil))))) (aIf (aOr (aB (aBin (dEq) (aTup (aCons (aV 3) (aCons (aV 4) (aNil)))) (aTup (aCons (aV 1) (aCons (aV 2) (aNil)))))) (aB (aBin (dEq) (aTup (aCons (aV 3) (aCons (aV 4) (aNil)))) (aTup (aCons (aV 2) (aCons (aV 1) (aNil))))))) (aRetV 5) (aNext))) (aRet (aC .non))
theorem w_Net_delay : ∀ ws P, c_Net_delay ws P → a_Net_delay { nx := fun _ => P (.cl .non), rt := fun w _ => P w } (startA 6 ws) := by
  rintro ws P ⟨N, a, b, rfl, h⟩
  show a_Net_delay _ [.im (.ins 0 [.lst (N.ks.map kD), .lst (N.ls.map lnD), .int N.pr, .int N.er]), .im (.int a), .im (.int b), .non, .non, .non]
  unfold a_Net_delay
  walk_at "vs"
  refine for_map lnD N.ls (fun r δ => (∃ x y z, δ = [.im (.ins 0 [.lst (N.ks.map kD), .lst (N.ls.map lnD), .int N.pr, .int N.er]), .im (.int a), .im (.int b), x, y, z]) ∧ joinN N a b = joinL a b r) ⟨⟨_, _, _, rfl⟩, rfl⟩ ?_ ?_
  · rintro ⟨p, q, t⟩ r δ _ ⟨⟨x, y, z, rfl⟩, hf⟩
    rw [show lnD (p, q, t) = .tup [.int p, .int q, .int t] from rfl]
    have e1 : joinL a b ((p, q, t) :: r) = if (p = a ∧ q = b) ∨ (p = b ∧ q = a) then some t else joinL a b r := rfl
    rw [e1] at hf
    walk_at "vs"
    simp only [okD_p2, eqD_p2]
    refine ⟨by decide, by decide, trivial, trivial, ?_⟩
    split
    · rename_i q
      rw [if_pos (.inl (of_decide_eq_true q))] at hf
      rw [hf] at h
      exact h
    · rename_i q
      refine ⟨by decide, by decide, trivial, trivial, ?_⟩
      split
      · rename_i q2
        rw [if_pos (.inr (of_decide_eq_true q2))] at hf
        rw [hf] at h
        exact h
      · rename_i q2
        rw [if_neg (fun z => z.elim (fun z => q (decide_eq_true z)) fun z => q2 (decide_eq_true z))] at hf
        exact ⟨⟨_, _, _, rfl⟩, hf⟩
  · rintro δ ⟨⟨x, y, z, rfl⟩, hf⟩
    walk_at "vs"
    rw [hf] at h
    exact h
def tri : Nat → Nat
  | 0 => 0
  | n + 1 => tri n + n
theorem tri_le {n : Nat} (h : n ≤ 7) : tri n ≤ 21 := by
  have : n = 0 ∨ n = 1 ∨ n = 2 ∨ n = 3 ∨ n = 4 ∨ n = 5 ∨ n = 6 ∨ n = 7 := by omega
  rcases this with rfl | rfl | rfl | rfl | rfl | rfl | rfl | rfl <;> decide
def pD (p : Int × Int) : D := .tup [.int p.1, .int p.2]
/-- pairs of nodes, one of them a switch, below (a, b) -/
structure PairsTo (ks : List Bool) (ps : List (Int × Int)) (a b : Nat) : Prop where
  nd : ps.Nodup
  lt : ∀ p ∈ ps, 0 ≤ p.2 ∧ p.2 < p.1 ∧ (p.1 < a ∨ (p.1 = a ∧ p.2 < b))
  sw : ∀ p ∈ ps, (ks.getD p.1.toNat false = false ∨ ks.getD p.2.toNat false = false)
  ln : ps.length ≤ tri a + b
theorem PairsTo.row {ks : List Bool} {ps : List (Int × Int)} {a b : Nat} (h : PairsTo ks ps a b) (e : a = b) : PairsTo ks ps (a + 1) 0 :=
  ⟨h.nd, fun p hp => by have := h.lt p hp; omega, h.sw, by have := h.ln; show _ ≤ tri a + a + 0; omega⟩
theorem PairsTo.skip {ks : List Bool} {ps : List (Int × Int)} {a b : Nat} (h : PairsTo ks ps a b) : PairsTo ks ps a (b + 1) :=
  ⟨h.nd, fun p hp => by have := h.lt p hp; omega, h.sw, by have := h.ln; omega⟩
theorem PairsTo.add {ks : List Bool} {ps : List (Int × Int)} {a b : Nat} (h : PairsTo ks ps a b) (hb : b < a) (hs : ks.getD a false = false ∨ ks.getD b false = false) : PairsTo ks (ps ++ [((a : Int), (b : Int))]) a (b + 1) := by
  refine ⟨?_, fun p hp => ?_, fun p hp => ?_, by rw [List.length_append, List.length_singleton]; have := h.ln; omega⟩
  · rw [List.nodup_append]
    refine ⟨h.nd, List.nodup_cons.mpr ⟨List.not_mem_nil, List.nodup_nil⟩, fun p hp q hq e => ?_⟩
    rw [List.mem_singleton.mp hq] at e
    have := h.lt p hp
    rw [e] at this
    have h1 : ((a : Int), (b : Int)).1 = a := rfl
    have h2 : ((a : Int), (b : Int)).2 = b := rfl
    omega
  · rcases List.mem_append.mp hp with q | q
    · have := h.lt p q; omega
    · rw [List.mem_singleton.mp q]
      exact ⟨by show (0 : Int) ≤ b; omega, by show (b : Int) < a; omega, .inr ⟨rfl, by show (b : Int) < ((b + 1 : Nat) : Int); omega⟩⟩
  · rcases List.mem_append.mp hp with q | q
    · exact h.sw p q
    · rw [List.mem_singleton.mp q]
      simpa using hs
/-- lines so far, n nodes -/
structure LinesTo (n : Nat) (ls : List Ln) : Prop where
  ln : ∀ w ∈ ls, (0 ≤ w.1 ∧ w.1 < n) ∧ (0 ≤ w.2.1 ∧ w.2.1 < n) ∧ w.1 ≠ w.2.1 ∧ 0 ≤ w.2.2 ∧ w.2.2 ≤ 4
  nd : (ls.map normL).Nodup
  l21 : ls.length ≤ 21
theorem normL_1 {a b t : Int} (h : b < a) : normL (a, b, t) = (a, b) := if_pos h
theorem normL_2 {a b t : Int} (h : b < a) : normL (b, a, t) = (a, b) := if_neg (by show ¬ a < b; omega)
theorem LinesTo.add {n : Nat} {ls : List Ln} {w : Ln} (h : LinesTo n ls) (h1 : (0 ≤ w.1 ∧ w.1 < n) ∧ (0 ≤ w.2.1 ∧ w.2.1 < n) ∧ w.1 ≠ w.2.1 ∧ 0 ≤ w.2.2 ∧ w.2.2 ≤ 4) (h2 : normL w ∉ ls.map normL) (h3 : ls.length < 21) : LinesTo n (ls ++ [w]) := by
  refine ⟨fun u hu => ?_, ?_, by rw [List.length_append, List.length_singleton]; omega⟩
  · rcases List.mem_append.mp hu with q | q
    · exact h.ln u q
    · rw [List.mem_singleton.mp q]; exact h1
  · rw [List.map_append, List.nodup_append]
    refine ⟨h.nd, List.nodup_cons.mpr ⟨List.not_mem_nil, List.nodup_nil⟩, fun p hp q hq e => ?_⟩
    rw [List.map_singleton, List.mem_singleton] at hq
    rw [e, hq] at hp
    exact h2 hp
/-! ### the paths of a net -/
def rowD (r : List Int) : D := .lst (r.map .int)
def ExtN (N : NetV) (r : List Int) (b : Int) : Prop := (0 ≤ b ∧ b < N.ks.length) ∧ b ∉ r ∧ ∃ a, r.getLast? = some a ∧ joinN N a b ≠ none
/-- rows of t + 1 nodes: a host, then switches -/
def RowT (N : NetV) : Nat → List Int → Prop
  | 0, r => ∃ a : Int, (0 ≤ a ∧ a < N.ks.length) ∧ hostN N a = true ∧ r = [a]
  | t + 1, r => ∃ r' b, RowT N t r' ∧ r = r' ++ [b] ∧ ExtN N r' b ∧ hostN N b = false
def FoundT (N : NetV) (t : Nat) (r : List Int) : Prop := ∃ s r' b, s < t ∧ RowT N s r' ∧ r = r' ++ [b] ∧ ExtN N r' b ∧ hostN N b = true
theorem RowT.len {N : NetV} : ∀ {t : Nat} {r : List Int}, RowT N t r → r.length = t + 1
  | 0, r, ⟨a, _, _, e⟩ => by rw [e]; rfl
  | t + 1, r, ⟨r', b, h, e, _⟩ => by rw [e, List.length_append, RowT.len h]; rfl
theorem RowT.last {N : NetV} {t : Nat} {r : List Int} (h : RowT N t r) : ∃ a r0, r = r0 ++ [a] := by
  cases t with
  | zero => obtain ⟨a, _, _, e⟩ := h; exact ⟨a, [], e⟩
  | succ t => obtain ⟨r', b, _, e, _⟩ := h; exact ⟨b, r', e⟩
theorem inD_ints (x : Int) (ns : List Int) : inD (.int x) (ns.map .int) = decide (x ∈ ns) := by
  unfold inD
  rw [Bool.eq_iff_iff, List.any_eq_true, decide_eq_true_eq]
  constructor
  · rintro ⟨d, hd, e⟩
    obtain ⟨y, hy, rfl⟩ := List.mem_map.mp hd
    rw [eqD_int] at e
    exact of_decide_eq_true e ▸ hy
  · intro h
    exact ⟨.int x, List.mem_map.mpr ⟨x, h, rfl⟩, by rw [eqD_int]; simp⟩
theorem set_skip {X Y : List (List Int)} {row : List Int} {j : Nat} {p : Int → Prop} (h : ∀ r, r ∈ X ↔ r ∈ Y ∨ ∃ b : Int, b < j ∧ r = row ++ [b] ∧ p b) (hn : ¬ p (0 + (j : Int))) : ∀ r, r ∈ X ↔ r ∈ Y ∨ ∃ b : Int, b < ((j + 1 : Nat) : Int) ∧ r = row ++ [b] ∧ p b := fun r => by
  rw [h]
  refine or_congr Iff.rfl ⟨fun ⟨b, q1, q⟩ => ⟨b, by omega, q⟩, fun ⟨b, q1, q2, q3⟩ => ⟨b, ?_, q2, q3⟩⟩
  by_cases e : b = 0 + (j : Int)
  · exact absurd (e ▸ q3) hn
  · omega
theorem set_add {X Y : List (List Int)} {row : List Int} {j : Nat} {p : Int → Prop} (h : ∀ r, r ∈ X ↔ r ∈ Y ∨ ∃ b : Int, b < j ∧ r = row ++ [b] ∧ p b) (hn : p (0 + (j : Int))) : ∀ r, r ∈ X ++ [row ++ [0 + (j : Int)]] ↔ r ∈ Y ∨ ∃ b : Int, b < ((j + 1 : Nat) : Int) ∧ r = row ++ [b] ∧ p b := fun r => by
  rw [List.mem_append, h, List.mem_singleton]
  constructor
  · rintro ((q | ⟨b, q1, q⟩) | q)
    · exact .inl q
    · exact .inr ⟨b, by omega, q⟩
    · exact .inr ⟨_, by omega, q, hn⟩
  · rintro (q | ⟨b, q1, q2, q3⟩)
    · exact .inl (.inl q)
    · by_cases e : b = 0 + (j : Int)
      · exact .inr (by rw [q2, e])
      · exact .inl (.inr ⟨b, by omega, q2, q3⟩)
end Vl
local macro_rules | `(tactic| walk_at "vs") => `(tactic| simp only [Vl.aSeq, Vl.aFor_eq, Vl.aIf, Vl.aB, Vl.aBin, Vl.aUn, Vl.aV, Vl.slotW, Vl.gt_z, Vl.gt_s, Vl.aCB, Vl.aCall, Vl.aCons, Vl.aNil, Vl.argW, Vl.dLt_eq, Vl.dLe_eq, Vl.dGt_eq, Vl.dGe_eq, Vl.dI0, Vl.dI, Vl.dAdd, Vl.dSub_eq, Vl.dMul, Vl.dDiv_eq, Vl.dMod_eq, Vl.dPow_eq, Vl.dShl_eq, Vl.dNeg, Vl.dNot, Vl.dIsN, Vl.dNotN, Vl.dEq, Vl.dNe, Vl.dIn, Vl.dIx, Vl.fLen_lst, Vl.fLen_tup, Vl.fLen_ow, Vl.fLen_bw, Vl.fLen_scr, Vl.fLen_str, Vl.fInt_int, Vl.fInt_bl, Vl.fAbs_int, Vl.fMax_int, Vl.fMin_int, Vl.fGcd_int, Vl.fLcm_int, Vl.fList_lst, Vl.fList_tup, Vl.fList_ow, Vl.fList_bw, Vl.fList_scr, Vl.seqC, Vl.lstC, Vl.itemsC, Vl.clW, Vl.W.toD, Vl.M.toD, Vl.clDs, Option.map_some, Option.map_none,
  Vl.aRet, Vl.aRetV, Vl.aRetN, Vl.aNext, Vl.aBreak, Vl.aCont, Vl.aC, Vl.aSet, Vl.aSetC, Vl.slotA, Vl.aDrop, Vl.aAsgG, Vl.agN, Vl.agT, Vl.agCons, Vl.agNil, Vl.iLst, Vl.iTup, Vl.iR1, Vl.iR2, Vl.aTup, Vl.aLst, Vl.aAnd, Vl.aOr, Vl.aNot, Vl.aAndV, Vl.aOrV, Vl.aIfE, Vl.aSl, Vl.aoS, Vl.aoN, Vl.aChain, Vl.aAugAdd, Vl.aAugSub, Vl.aMut, Vl.aMutS, Vl.mAppend, Vl.mPop, Vl.mPopAt, Vl.mReverse, Vl.tyM, Vl.aFrz, Vl.frz, Vl.aSetIx, Vl.aLc, Vl.wipeA, Vl.aYes,
  List.set_cons_zero, List.set_cons_succ, List.length_map, List.length_cons, List.length_nil, decide_eq_true_eq, Bool.not_true, Bool.not_false, if_true, if_false, Bool.false_eq_true, Vl.okD_int, Vl.okD_bl, Vl.okD_non, Vl.eqD_int, Vl.eqD_bl, Vl.eqD_non, true_and, and_true, Vl.snoc_int, Vl.aIsi, Vl.isi_bl_bool, Vl.isi_bl_int, Vl.isi_int_int, Vl.isi_int_bool, Vl.isi_non_int, Vl.isi_non_bool, Vl.isi_lst_list, Vl.isi_tup_list, Vl.isi_tup_tuple, Vl.isi_non_tuple, Vl.isi_non_list, Vl.isi_str_str, Vl.isi_lst_bool, Vl.isi_str_bool, Vl.isi_tup_bool, Vl.ixD_0, Vl.ixD_1, Vl.ixD_2, Vl.ixD_3, Vl.ixD_4, Vl.ixD_5, Vl.ixD_6, Vl.ixD_7, Vl.ixD_8, Vl.ixD_9, Vl.ixD_10, Vl.ixD_11, Vl.aFld, Vl.aMeth, Vl.aMake, Vl.aMakeK, Vl.mInsert, Vl.aIndex, Vl.fMax1_eq, Vl.fSorted_eq, List.getElem?_cons_zero, List.getElem?_cons_succ, List.cons_append, List.nil_append, Vl.aPar, Vl.aIsO, Vl.dNeS, Vl.aDNew, Vl.dEqO, Vl.aDGet, Vl.aDIx, Vl.dInD, Vl.kidsW, Vl.keyO, Vl.keyF, Vl.keysF, Vl.getK_map, Vl.M.toDs, Vl.refM, Vl.bwM, Vl.owM, Vl.aMakeO, Vl.aSetX, Vl.aSetCX, Vl.aDropX, Vl.aRetX, Vl.aAsgGX, Vl.aIfX, Vl.xP, Vl.tP, Vl.aBX, Vl.aAndX, Vl.aOrX, Vl.aNotX, Vl.aBinX, Vl.aCallL, Vl.aMethL, Vl.alHere, Vl.alCons, Vl.setP, Vl.apV, Vl.apFld, Vl.apIx, Vl.apKey, Vl.aMutP, Vl.aFSet, Vl.aDPutP, Vl.kidW, Vl.putM, Vl.dctM, Vl.aLstO, Vl.aoCons, Vl.aoNil, Vl.aDisp, Vl.dispGo, Vl.iLstG, Vl.xMut, Vl.fLenD, Vl.one, Vl.mRemove, Vl.apW, Vl.allW_nil, Vl.allW_cons, Vl.anHere, Vl.anCons, Vl.aCallN, Vl.aCallF, Vl.clAlls, Vl.clAll, Vl.flatW, Vl.flatD, Vl.flatDs, Bool.and_true, Bool.true_and, Vl.aDNewM, Vl.fSortT_eq, Vl.fSortDT_eq, Vl.fMinD_eq, Vl.fMaxD_eq, Vl.aForX_eq, Vl.aCallK, Vl.aCallD, Vl.xSortPop, Vl.dEqS, Vl.aSlT, Vl.aClE, Vl.aLenSet, Vl.aMakeD])
namespace Vl
open PySem PySem.Spec PyProof.Rows L2

/-! ### streams, entries -/
structure StrV where
  per : Int
  len : Int
  dl : Int
  path : List Int
def strDs (s : StrV) : List D := [.int s.per, .int s.len, .int s.dl, .lst (s.path.map .int)]
def strD (s : StrV) : D := .ins 1 (strDs s)
structure EntV where
  st : StrV
  os : List Int
def entD (e : EntV) : D := .tup [.ins 1 [.int e.st.per, .int e.st.len, .int e.st.dl, .lst (e.st.path.map .int)], .lst (e.os.map .int)]
def g_Stream (ds : List D) : Prop := ∃ s : StrV, ds = [.int s.per, .int s.len, .int s.dl, .lst (s.path.map .int)]
theorem okD_il (ns : List Int) : okD (.lst (ns.map D.int)) = true := okD_map (dep_int 0) (by decide)
def c_Stream___init__ : Ini := fun ws P => ∃ (p l d : Int) (wk : W) (kd : List D), ws = [.cl (.int p), .cl (.int l), .cl (.int d), wk] ∧ RdL wk kd ∧ P [.int p, .int l, .int d, .lst kd]
theorem l_Stream___init__ : ∀ ws P, c_Stream___init__ ws P → ws.length + 1 = 5 := by rintro ws P ⟨p, l, d, wk, kd, rfl, _⟩; rfl
/-- Stream.__init__: slots 0=self 1=period 2=length 3=deadline 4=path -/
def a_Stream___init__ : AF :=
  aFs (aF 0 (aV 1)) (aFs (aF 1 (aV 2)) (aFs (aF 2 (aV 3)) (aF 3 (aCB fList (aCons (aV 4) (aNil))))))
theorem w_Stream___init__ : ∀ ws P, c_Stream___init__ ws P → a_Stream___init__ (.non :: ws.map avOf) [] fun ds => ds.length = 4 ∧ P ds := by
  rintro ws P ⟨p, l, d, wk, kd, rfl, h1, h⟩
  unfold a_Stream___init__ aFs aF
  rcases h1 with rfl | rfl | rfl <;>
  · simp only [List.map_cons, List.map_nil, avOf]
    walk_at "vs"
    first | exact ⟨rfl, h⟩ | exact h | exact ⟨rfl, rfl, rfl, rfl, rfl, h⟩
def c_Stream___eq__ : Ct := fun ws Q => ∃ (s : StrV) (d : D), ws = [.cl (.ins 1 [.int s.per, .int s.len, .int s.dl, .lst (s.path.map .int)]), .cl d] ∧
  ((∃ s' : StrV, d = .ins 1 [.int s'.per, .int s'.len, .int s'.dl, .lst (s'.path.map .int)] ∧ Q (.cl (.bl (decide (s.per = s'.per ∧ s.len = s'.len ∧ s.dl = s'.dl ∧ s.path = s'.path))))) ∨ (∃ ds, d = .lst ds ∧ Q (.cl (.bl false))) ∨ ∃ i, d = .int i ∧ Q (.cl (.bl false)))
theorem l_Stream___eq__ : ∀ ws P, c_Stream___eq__ ws P → ws.length = 2 := by rintro ws P ⟨s, d, rfl, _⟩; rfl
theorem hct_Stream : ∀ ds Q, g_Stream ds → Q (.cl (.bl true)) → c_Stream___eq__ [.cl (.ins 1 ds), .cl (.ins 1 ds)] Q := by
  rintro ds Q ⟨s, rfl⟩ q
  exact ⟨s, _, rfl, .inl ⟨s, rfl, by simpa using q⟩⟩
/-- Stream.__eq__: slots 0=self 1=other -/
def a_Stream___eq__ : AS :=
  aSeq (aIf (aNot (aB (aIsO 1 (aV 1)))) (aRet (aC (.bl false))) (aNext)) (aSeq (aIf (aOr (aB (aBin (dNe) (aFld 1 0 (aV 0)) (aFld 1 0 (aV 1)))) (aB (aBin (dNe) (aFld 1 1 (aV 0)) (aFld 1 1 (aV 1))))) (aRet (aC (.bl false))) (aNext)) (aRet (aAndV (aBin (dEq) (aFld 1 2 (aV 0)) (aFld 1 2 (aV 1))) (aBin (dEq) (aFld 1 3 (aV 0)) (aFld 1 3 (aV 1))))))
theorem w_Stream___eq__ : ∀ ws P, c_Stream___eq__ ws P → a_Stream___eq__ { nx := fun _ => P (.cl .non), rt := fun w _ => P w } (startA 2 ws) := by
  rintro ws P ⟨s, d, rfl, h⟩
  show a_Stream___eq__ _ [.im (.ins 1 [.int s.per, .int s.len, .int s.dl, .lst (s.path.map .int)]), .im d]
  unfold a_Stream___eq__
  rcases h with ⟨s', rfl, h⟩ | ⟨ds, rfl, h⟩ | ⟨i, rfl, h⟩
  · walk_at "vs"
    simp only [okD_il, eqD_ints, true_and]
    by_cases q1 : s.per = s'.per
    · by_cases q2 : s.len = s'.len
      · by_cases q3 : s.dl = s'.dl
        · by_cases q4 : s.path = s'.path
          · simpa [q1, q2, q3, q4] using h
          · simpa [q1, q2, q3, q4] using h
        · simpa [q1, q2, q3] using h
      · simpa [q1, q2] using h
    · simpa [q1] using h
  · walk_at "vs"
    exact h
  · walk_at "vs"
    exact h
/-! ### ports -/
def portsL : List Int → List (Int × Int)
  | a :: b :: r => (a, b) :: portsL (b :: r)
  | _ => []
theorem portsL_len : ∀ p : List Int, (portsL p).length = p.length - 1
  | [] => rfl
  | [_] => rfl
  | a :: b :: r => by
    rw [portsL, List.length_cons, portsL_len (b :: r)]
    simp
theorem portsL_at : ∀ {p : List Int} {k : Nat} {a b : Int}, p[k]? = some a → p[k + 1]? = some b → (portsL p)[k]? = some (a, b)
  | [], _, _, _, h, _ => by simp at h
  | [_], 0, _, _, _, h => by simp at h
  | [_], k + 1, _, _, h, _ => by simp at h
  | x :: y :: r, 0, a, b, h1, h2 => by
    simp at h1 h2
    subst h1; subst h2
    rfl
  | x :: y :: r, k + 1, a, b, h1, h2 => by
    rw [portsL, List.getElem?_cons_succ]
    exact portsL_at (by simpa using h1) (by simpa using h2)
theorem portsL_of {p : List Int} {k : Nat} {q : Int × Int} (h : (portsL p)[k]? = some q) : p[k]? = some q.1 ∧ p[k + 1]? = some q.2 := by
  have hk : k < (portsL p).length := by
    apply Classical.byContradiction
    intro z
    rw [List.getElem?_eq_none_iff.mpr (by omega)] at h
    cases h
  rw [portsL_len] at hk
  have e1 : p[k]? = some p[k] := List.getElem?_eq_getElem (by omega)
  have e2 : p[k + 1]? = some p[k + 1] := List.getElem?_eq_getElem (by omega)
  have e3 := portsL_at e1 e2
  rw [h] at e3
  cases e3
  exact ⟨e1, e2⟩
def c_ports_of : Ct := fun ws Q => ∃ p : List Int, ws = [.cl (.lst (p.map .int))] ∧ (1 ≤ p.length ∧ p.length ≤ 1000) ∧ Q (.fr (.fl ((portsL p).map pD)))
theorem l_ports_of : ∀ ws P, c_ports_of ws P → ws.length = 1 := by rintro ws P ⟨p, rfl, _⟩; rfl
/-- ports_of: slots 0=path 1=k -/
def a_ports_of : AS :=
  aRet (aLc (iR1 (aCons (aBin dSub (aCB fLen1 (aCons (aV 0) (aNil))) (aC (.int 1))) (aNil))) (agN 1) (aYes) (aTup (aCons (aBin dIx (aV 0) (aV 1)) (aCons (aBin dIx (aV 0) (aBin dAdd (aV 1) (aC (.int 1)))) (aNil)))) [1])
theorem w_ports_of : ∀ ws P, c_ports_of ws P → a_ports_of { nx := fun _ => P (.cl .non), rt := fun w _ => P w } (startA 2 ws) := by
  rintro ws P ⟨p, rfl, hl, h⟩
  show a_ports_of _ [.im (.lst (p.map .int)), .non]
  unfold a_ports_of
  walk_at "vs"
  refine ⟨by omega, ?_⟩
  have en : ((p.length : Int) - 1).toNat = p.length - 1 := by omega
  rw [en]
  refine lc_all (fun i : Nat => D.int (0 + (i : Int))) (fun i => pD ((p.getD i 0), p.getD (i + 1) 0)) (List.range (p.length - 1)) (by simp; omega) (fun i hi K hK => ?_) ?_
  · have hi := List.mem_range.mp hi
    have e1 : p[(0 + (i : Int)).toNat]? = some (p.getD i 0) := by
      rw [show (0 + (i : Int)).toNat = i by omega, List.getD_eq_getElem?_getD, List.getElem?_eq_getElem (show i < p.length by omega)]; rfl
    have e2 : p[(0 + (i : Int) + 1).toNat]? = some (p.getD (i + 1) 0) := by
      rw [show (0 + (i : Int) + 1).toNat = i + 1 by omega, List.getD_eq_getElem?_getD, List.getElem?_eq_getElem (show i + 1 < p.length by omega)]; rfl
    walk_at "vs"
    rw [ixD_map D.int (by omega) e1]
    walk_at "vs"
    rw [ixD_map D.int (by omega) e2]
    walk_at "vs"
    exact ⟨by decide, hK⟩
  · have e : (List.range (p.length - 1)).map (fun i : Nat => pD (p.getD i 0, p.getD (i + 1) 0)) = (portsL p).map pD := by
      apply List.ext_getElem?
      intro i
      rw [List.getElem?_map, List.getElem?_map]
      by_cases hi : i < p.length - 1
      · have e1 : p[i]? = some (p.getD i 0) := by rw [List.getD_eq_getElem?_getD, List.getElem?_eq_getElem (show i < p.length by omega)]; rfl
        have e2 : p[i + 1]? = some (p.getD (i + 1) 0) := by rw [List.getD_eq_getElem?_getD, List.getElem?_eq_getElem (show i + 1 < p.length by omega)]; rfl
        rw [portsL_at e1 e2, List.getElem?_range hi]
        rfl
      · rw [List.getElem?_eq_none_iff.mpr (by simp; omega), List.getElem?_eq_none_iff.mpr (by rw [portsL_len]; omega)]
        rfl
    rw [e]
    walk_at "vs"
    exact h
/-! ### paths, entries that are in order -/
structure PathOk (N : NetV) (p : List Int) : Prop where
  l2 : 2 ≤ p.length
  l6 : p.length ≤ 6
  nd : p.Nodup
  inn : ∀ x ∈ p, 0 ≤ x ∧ x < N.ks.length
  jn : ∀ k a b, p[k]? = some a → p[k + 1]? = some b → joinN N a b ≠ none
theorem PathOk.snoc {N : NetV} {p : List Int} {b : Int} (hl : p.length ≤ 5) (h1 : 1 ≤ p.length) (nd : p.Nodup) (inn : ∀ x ∈ p, 0 ≤ x ∧ x < N.ks.length) (jn : ∀ k a b, p[k]? = some a → p[k + 1]? = some b → joinN N a b ≠ none) (hE : ExtN N p b) : PathOk N (p ++ [b]) := by
  refine ⟨by rw [List.length_append, List.length_singleton]; omega, by rw [List.length_append, List.length_singleton]; omega, ?_, fun x hx => ?_, fun k a c q1 q2 => ?_⟩
  · rw [List.nodup_append]
    exact ⟨nd, List.nodup_cons.mpr ⟨List.not_mem_nil, List.nodup_nil⟩, fun x hx y hy e => by rw [List.mem_singleton.mp hy] at e; exact hE.2.1 (e ▸ hx)⟩
  · rcases List.mem_append.mp hx with q | q
    · exact inn x q
    · rw [List.mem_singleton.mp q]; exact hE.1
  · by_cases e : k + 1 < p.length
    · rw [List.getElem?_append_left (by omega)] at q1
      rw [List.getElem?_append_left e] at q2
      exact jn k a c q1 q2
    · have hk : k + 1 = p.length := by
        have : k + 1 < (p ++ [b]).length := by
          apply Classical.byContradiction
          intro z
          rw [List.getElem?_eq_none_iff.mpr (by omega)] at q2
          cases q2
        rw [List.length_append, List.length_singleton] at this
        omega
      obtain ⟨a', g1, g2⟩ := hE.2.2
      rw [List.getElem?_append_left (by omega)] at q1
      rw [List.getElem?_append_right (by omega), show k + 1 - p.length = 0 by omega] at q2
      rw [List.getLast?_eq_getElem?, show p.length - 1 = k by omega, q1] at g1
      cases g1
      cases q2
      exact g2
theorem RowT.ok {N : NetV} : ∀ {t : Nat} {r : List Int}, RowT N t r → r.Nodup ∧ (∀ x ∈ r, 0 ≤ x ∧ x < N.ks.length) ∧ ∀ k a b, r[k]? = some a → r[k + 1]? = some b → joinN N a b ≠ none
  | 0, r, ⟨a, h, _, e⟩ => by
    subst e
    exact ⟨List.nodup_cons.mpr ⟨List.not_mem_nil, List.nodup_nil⟩, fun x hx => by rw [List.mem_singleton.mp hx]; exact h, fun k a b _ q => by simp at q⟩
  | t + 1, r, ⟨r', b, h, e, hE, _⟩ => by
    subst e
    obtain ⟨i1, i2, i3⟩ := RowT.ok h
    refine ⟨?_, fun x hx => ?_, fun k a c q1 q2 => ?_⟩
    · rw [List.nodup_append]
      exact ⟨i1, List.nodup_cons.mpr ⟨List.not_mem_nil, List.nodup_nil⟩, fun x hx y hy e => by rw [List.mem_singleton.mp hy] at e; exact hE.2.1 (e ▸ hx)⟩
    · rcases List.mem_append.mp hx with q | q
      · exact i2 x q
      · rw [List.mem_singleton.mp q]; exact hE.1
    · by_cases e : k + 1 < r'.length
      · rw [List.getElem?_append_left (by omega)] at q1
        rw [List.getElem?_append_left e] at q2
        exact i3 k a c q1 q2
      · have hk : k + 1 = r'.length := by
          have : k + 1 < (r' ++ [b]).length := by
            apply Classical.byContradiction
            intro z
            rw [List.getElem?_eq_none_iff.mpr (by omega)] at q2
            cases q2
          rw [List.length_append, List.length_singleton] at this
          omega
        obtain ⟨a', g1, g2⟩ := hE.2.2
        rw [List.getElem?_append_left (by omega)] at q1
        rw [List.getElem?_append_right (by omega), show k + 1 - r'.length = 0 by omega] at q2
        rw [List.getLast?_eq_getElem?, show r'.length - 1 = k by omega, q1] at g1
        cases g1
        cases q2
        exact g2
theorem FoundT.ok {N : NetV} {m : Nat} (hm : m ≤ 4) {r : List Int} (h : FoundT N m r) : PathOk N r := by
  obtain ⟨s, r', b, hs, h, rfl, hE, _⟩ := h
  obtain ⟨i1, i2, i3⟩ := h.ok
  have hl := h.len
  exact PathOk.snoc (by omega) (by omega) i1 i2 i3 hE
theorem RowT.way {N : NetV} : ∀ {t : Nat} {r : List Int}, RowT N t r → ∀ h, 1 ≤ h → h < r.length → hostN N (r.getD h 0) = false
  | 0, r, ⟨a, h, _, e⟩ => fun k h1 h2 => by
    rw [e] at h2
    simp at h2
    omega
  | t + 1, r, ⟨r', b, h, e, hE, hb⟩ => fun k h1 h2 => by
    have ih := RowT.way h
    rw [e, List.length_append, List.length_singleton] at h2
    rw [e, List.getD_eq_getElem?_getD]
    by_cases q : k < r'.length
    · rw [List.getElem?_append_left q, ← List.getD_eq_getElem?_getD]
      exact ih k h1 q
    · rw [List.getElem?_append_right (by omega), show k - r'.length = 0 by omega]
      exact hb
theorem FoundT.way {N : NetV} {m : Nat} {r : List Int} (h : FoundT N m r) : (∀ h, 1 ≤ h → h + 1 < r.length → hostN N (r.getD h 0) = false) ∧ hostN N (r.getD (r.length - 1) 0) = true := by
  obtain ⟨s, r', b, hs, h, rfl, hE, hb⟩ := h
  constructor
  · intro k h1 h2
    rw [List.length_append, List.length_singleton] at h2
    rw [List.getD_eq_getElem?_getD, List.getElem?_append_left (by omega), ← List.getD_eq_getElem?_getD]
    exact h.way k h1 (by omega)
  · rw [List.getD_eq_getElem?_getD, List.length_append, List.length_singleton, List.getElem?_append_right (by omega), show r'.length + 1 - 1 - r'.length = 0 by omega]
    exact hb
theorem RowT.first {N : NetV} : ∀ {t : Nat} {r : List Int}, RowT N t r → hostN N (r.getD 0 0) = true
  | 0, r, ⟨a, h, hh, e⟩ => by rw [e]; exact hh
  | t + 1, r, ⟨r', b, h, e, _⟩ => by
    have ih := RowT.first h
    have hl := h.len
    rw [e, List.getD_eq_getElem?_getD, List.getElem?_append_left (by omega), ← List.getD_eq_getElem?_getD]
    exact ih
theorem FoundT.first {N : NetV} {m : Nat} {r : List Int} (h : FoundT N m r) : hostN N (r.getD 0 0) = true := by
  obtain ⟨s, r', b, hs, h, rfl, _⟩ := h
  have hl := h.len
  rw [List.getD_eq_getElem?_getD, List.getElem?_append_left (by omega), ← List.getD_eq_getElem?_getD]
  exact h.first
structure EntOk (N : NetV) (e : EntV) : Prop where
  p : PathOk N e.st.path
  lo : e.os.length + 1 = e.st.path.length
  per1 : 1 ≤ e.st.per
  per2 : e.st.per ≤ 12
  len1 : 1 ≤ e.st.len
/-- an entry that may still be short of offsets -/
structure EntPre (N : NetV) (e : EntV) : Prop where
  p : PathOk N e.st.path
  lo : e.os.length + 1 ≤ e.st.path.length
  per1 : 1 ≤ e.st.per
  len1 : 1 ≤ e.st.len
theorem EntOk.pre {N : NetV} {e : EntV} (h : EntOk N e) : EntPre N e := ⟨h.p, by have := h.lo; omega, h.per1, h.len1⟩
/-- when what leaves at o over the line is there and may go on -/
def arrN (N : NetV) (a b o len : Int) : Int := o + len + (joinN N a b).getD 0 + (if hostN N b = true then 0 else N.pr)
/-- an entry as it is drawn -/
structure EntMx (fs : List (List Int)) (e : EntV) : Prop where
  pm : e.st.path ∈ fs
  ln3 : e.st.len ≤ 3
  per4 : 4 ≤ e.st.per
  ob : ∀ o ∈ e.os, 0 ≤ o ∧ o ≤ 120
  oi : ∀ (j : Nat) o, e.os[j]? = some o → 0 ≤ o ∧ o ≤ 12 + 20 * (j : Int)
  p6 : e.st.per ∈ ([4, 5, 6, 8, 10, 12] : List Int)
  dl1 : 1 ≤ e.st.dl
  dl3 : e.st.dl ≤ 300
theorem joinL_b : ∀ {ls : List Ln} {a b t : Int}, (∀ w ∈ ls, 0 ≤ w.2.2 ∧ w.2.2 ≤ 4) → joinL a b ls = some t → 0 ≤ t ∧ t ≤ 4
  | [], a, b, t, _, h => by cases h
  | w :: r, a, b, t, hw, h => by
    unfold joinL at h
    split at h
    · cases h; exact hw w List.mem_cons_self
    · exact joinL_b (fun v hv => hw v (List.mem_cons_of_mem _ hv)) h
theorem NetOk.dl {N : NetV} (h : NetOk N) (a b : Int) : 0 ≤ (joinN N a b).getD 0 ∧ (joinN N a b).getD 0 ≤ 4 := by
  cases e : joinN N a b with
  | none => exact ⟨by decide, by decide⟩
  | some t => exact joinL_b (fun w hw => (h.ln w hw).2.2.2) e
/-! ### places, ports, calls on entries -/
def arrE (N : NetV) (e : EntV) (h : Nat) : Int := arrN N (e.st.path.getD h 0) (e.st.path.getD (h + 1) 0) (e.os.getD h 0) e.st.len
def winT (e : EntV) (h : Nat) : Ln := (e.os.getD h 0, e.st.len, e.st.per)
def portE (e : EntV) (h : Nat) : Int × Int := (e.st.path.getD h 0, e.st.path.getD (h + 1) 0)
def dfl : EntV := ⟨⟨1, 1, 1, []⟩, []⟩
theorem getD_at {xs : List Int} {k : Nat} (h : k < xs.length) : xs[k]? = some (xs.getD k 0) := by
  rw [List.getD_eq_getElem?_getD, List.getElem?_eq_getElem h]; rfl
theorem EntPre.at {N : NetV} {e : EntV} (h : EntPre N e) {t : Nat} (ht : t < e.os.length) : e.st.path[t]? = some (e.st.path.getD t 0) ∧ e.st.path[t + 1]? = some (e.st.path.getD (t + 1) 0) ∧ e.os[t]? = some (e.os.getD t 0) ∧
    joinN N (e.st.path.getD t 0) (e.st.path.getD (t + 1) 0) ≠ none ∧ (0 ≤ e.st.path.getD (t + 1) 0 ∧ e.st.path.getD (t + 1) 0 < N.ks.length) ∧ (0 ≤ e.st.path.getD t 0 ∧ e.st.path.getD t 0 < N.ks.length) := by
  have hl := h.lo
  have e1 := getD_at (xs := e.st.path) (k := t) (by omega)
  have e2 := getD_at (xs := e.st.path) (k := t + 1) (by omega)
  exact ⟨e1, e2, getD_at ht, h.p.jn _ _ _ e1 e2, h.p.inn _ (List.mem_of_getElem? e2), h.p.inn _ (List.mem_of_getElem? e1)⟩
theorem EntOk.at {N : NetV} {e : EntV} (h : EntOk N e) {t : Nat} (ht : t < e.os.length) : e.st.path[t]? = some (e.st.path.getD t 0) ∧ e.st.path[t + 1]? = some (e.st.path.getD (t + 1) 0) ∧ e.os[t]? = some (e.os.getD t 0) ∧
    joinN N (e.st.path.getD t 0) (e.st.path.getD (t + 1) 0) ≠ none ∧ (0 ≤ e.st.path.getD (t + 1) 0 ∧ e.st.path.getD (t + 1) 0 < N.ks.length) ∧ (0 ≤ e.st.path.getD t 0 ∧ e.st.path.getD t 0 < N.ks.length) := h.pre.at ht
theorem cut_take (ns : List Int) (k : Nat) : cutD (ns.map D.int) none (some (k : Int)) = (ns.take k).map D.int := by
  rw [cutD_cutL]
  congr 1
  unfold cutL
  rw [HT.sIx_nat]
  show (ns.drop 0).take (min k ns.length - 0) = ns.take k
  rw [List.drop_zero, Nat.sub_zero, List.take_eq_take_iff]
  omega
theorem portsL_mem {p : List Int} {q : Int × Int} : q ∈ portsL p ↔ ∃ o, o < p.length - 1 ∧ q = (p.getD o 0, p.getD (o + 1) 0) := by
  constructor
  · intro h
    obtain ⟨k, hk⟩ := List.mem_iff_getElem?.mp h
    have hk2 : k < (portsL p).length := by
      apply Classical.byContradiction
      intro z
      rw [List.getElem?_eq_none_iff.mpr (by omega)] at hk
      cases hk
    rw [portsL_len] at hk2
    rw [portsL_at (getD_at (by omega)) (getD_at (by omega))] at hk
    cases hk
    exact ⟨k, hk2, rfl⟩
  · rintro ⟨o, ho, rfl⟩
    exact List.mem_of_getElem? (portsL_at (getD_at (by omega)) (getD_at (by omega)))
theorem nodup_getD {p : List Int} (nd : p.Nodup) {i j : Nat} (hi : i < p.length) (hj : j < p.length) (e : p.getD i 0 = p.getD j 0) : i = j := by
  have h1 := getD_at hi
  have h2 := getD_at hj
  rw [← e] at h2
  exact (List.getElem?_inj hi nd).mp (h1.trans h2.symm)
theorem inD_p (q : Int × Int) (l : List (Int × Int)) : inD (pD q) (l.map pD) = decide (q ∈ l) := by
  unfold inD
  rw [Bool.eq_iff_iff, List.any_eq_true, decide_eq_true_eq]
  constructor
  · rintro ⟨d, hd, e⟩
    obtain ⟨y, hy, rfl⟩ := List.mem_map.mp hd
    have e2 := eqD_p2 y.1 y.2 q.1 q.2
    have e3 : eqD (pD y) (pD q) = decide (y.1 = q.1 ∧ y.2 = q.2) := e2
    rw [e3] at e
    have := of_decide_eq_true e
    rw [show q = y from Prod.ext this.1.symm this.2.symm]
    exact hy
  · intro h
    exact ⟨pD q, List.mem_map.mpr ⟨q, h, rfl⟩, (eqD_p2 q.1 q.2 q.1 q.2).trans (by simp)⟩
theorem okD_ps (l : List (Int × Int)) : okD (.lst (l.map pD)) = true := okD_map (f := pD) (n := 1) (fun q => dep_tup fun x hx => by
  simp only [List.mem_cons, List.not_mem_nil, or_false] at hx
  rcases hx with rfl | rfl <;> exact dep_int 0 _) (by decide)
theorem ixOf_p {q : Int × Int} {p : List Int} (h : q ∈ portsL p) : ∃ o, o < p.length - 1 ∧ q = (p.getD o 0, p.getD (o + 1) 0) ∧ ixOf (pD q) ((portsL p).map pD) = o := by
  have h0 : inD (pD q) ((portsL p).map pD) = true := by rw [inD_p]; exact decide_eq_true h
  obtain ⟨z, h1, h2, _⟩ := ixOf_at (pD q) h0
  rw [List.getElem?_map] at h1
  cases e : (portsL p)[ixOf (pD q) ((portsL p).map pD)]? with
  | none => rw [e] at h1; cases h1
  | some y =>
    rw [e] at h1
    cases h1
    have e3 : eqD (pD y) (pD q) = decide (y.1 = q.1 ∧ y.2 = q.2) := eqD_p2 y.1 y.2 q.1 q.2
    rw [e3] at h2
    have h2 := of_decide_eq_true h2
    have hk2 : ixOf (pD q) ((portsL p).map pD) < (portsL p).length := by
      apply Classical.byContradiction
      intro z
      rw [List.getElem?_eq_none_iff.mpr (by omega)] at e
      cases e
    rw [portsL_len] at hk2
    refine ⟨_, hk2, ?_, rfl⟩
    rw [portsL_at (getD_at (by omega)) (getD_at (by omega))] at e
    cases e
    exact Prod.ext h2.1.symm h2.2.symm
theorem getE {pl : List EntV} {k : Nat} (hk : k < pl.length) : pl[k]? = some (pl.getD k dfl) := by rw [List.getD_eq_getElem?_getD, List.getElem?_eq_getElem hk]; rfl
theorem rows_ne {m : Nat} {N : NetV} {fs : List (List Int)} (h : ∀ r, r ∈ fs ↔ FoundT N m r) (hm : m ≤ 4) : ∀ r ∈ fs, PathOk N r := fun r hr => FoundT.ok hm ((h r).mp hr)
theorem eqD_self {d : D} (h : okD d = true) : eqD d d = true := eqD_lst_refl _ (SeqAt.canLay_of_shaped h)
theorem lvD_ent (e : EntV) : lvD g_Stream 1 2 (entD e) := .inr ⟨_, .inr rfl, fun d hd => by
  simp only [List.mem_cons, List.not_mem_nil, or_false] at hd
  rcases hd with rfl | rfl
  · exact .inl ⟨rfl, e.st, rfl⟩
  · refine .inr ⟨_, .inl rfl, fun x hx => ?_⟩
    obtain ⟨n, _, rfl⟩ := List.mem_map.mp hx
    exact True.intro⟩
theorem cut_takeF {α : Type} (f : α → D) (xs : List α) (k : Nat) : cutD (xs.map f) none (some (k : Int)) = (xs.take k).map f := by
  rw [cutD_cutL]
  congr 1
  unfold cutL
  rw [HT.sIx_nat]
  show (xs.drop 0).take (min k xs.length - 0) = xs.take k
  rw [List.drop_zero, Nat.sub_zero, List.take_eq_take_iff]
  omega
theorem cut_dropF {α : Type} (f : α → D) (xs : List α) (k : Nat) : cutD (xs.map f) (some (k : Int)) none = (xs.drop k).map f := by
  rw [cutD_cutL]
  congr 1
  unfold cutL
  rw [HT.sIx_nat]
  show (xs.drop (min k xs.length)).take (xs.length - min k xs.length) = xs.drop k
  rw [List.take_of_length_le (by rw [List.length_drop]; omega)]
  by_cases h : k ≤ xs.length
  · rw [Nat.min_eq_left h]
  · rw [Nat.min_eq_right (by omega), List.drop_length, List.drop_of_length_le (by omega)]
theorem ixN_nn {n : Nat} {i : Int} (h0 : 0 ≤ i) (h1 : i < n) : ixN n i = some i.toNat := by
  unfold ixN
  rw [if_pos h0, if_pos (by omega)]
end Vl
set_option maxHeartbeats 2000000
local macro_rules | `(tactic| walk_at "vs") => `(tactic| simp only [Vl.aSeq, Vl.aFor_eq, Vl.aIf, Vl.aB, Vl.aBin, Vl.aUn, Vl.aV, Vl.slotW, Vl.gt_z, Vl.gt_s, Vl.aCB, Vl.aCall, Vl.aCons, Vl.aNil, Vl.argW, Vl.dLt_eq, Vl.dLe_eq, Vl.dGt_eq, Vl.dGe_eq, Vl.dI0, Vl.dI, Vl.dAdd, Vl.dSub_eq, Vl.dMul, Vl.dDiv_eq, Vl.dMod_eq, Vl.dPow_eq, Vl.dShl_eq, Vl.dNeg, Vl.dNot, Vl.dIsN, Vl.dNotN, Vl.dEq, Vl.dNe, Vl.dIn, Vl.dIx, Vl.fLen_lst, Vl.fLen_tup, Vl.fLen_ow, Vl.fLen_bw, Vl.fLen_scr, Vl.fLen_str, Vl.fInt_int, Vl.fInt_bl, Vl.fAbs_int, Vl.fMax_int, Vl.fMin_int, Vl.fGcd_int, Vl.fLcm_int, Vl.fList_lst, Vl.fList_tup, Vl.fList_ow, Vl.fList_bw, Vl.fList_scr, Vl.seqC, Vl.lstC, Vl.itemsC, Vl.clW, Vl.W.toD, Vl.M.toD, Vl.clDs, Option.map_some, Option.map_none,
  Vl.aRet, Vl.aRetV, Vl.aRetN, Vl.aNext, Vl.aBreak, Vl.aCont, Vl.aC, Vl.aSet, Vl.aSetC, Vl.slotA, Vl.aDrop, Vl.aAsgG, Vl.agN, Vl.agT, Vl.agCons, Vl.agNil, Vl.iLst, Vl.iTup, Vl.iR1, Vl.iR2, Vl.aTup, Vl.aLst, Vl.aAnd, Vl.aOr, Vl.aNot, Vl.aAndV, Vl.aOrV, Vl.aIfE, Vl.aSl, Vl.aoS, Vl.aoN, Vl.aChain, Vl.aAugAdd, Vl.aAugSub, Vl.aMut, Vl.aMutS, Vl.mAppend, Vl.mPop, Vl.mPopAt, Vl.mReverse, Vl.tyM, Vl.aFrz, Vl.frz, Vl.aSetIx, Vl.aLc, Vl.wipeA, Vl.aYes,
  List.set_cons_zero, List.set_cons_succ, List.length_map, List.length_cons, List.length_nil, decide_eq_true_eq, Bool.not_true, Bool.not_false, if_true, if_false, Bool.false_eq_true, Vl.okD_int, Vl.okD_bl, Vl.okD_non, Vl.eqD_int, Vl.eqD_bl, Vl.eqD_non, true_and, and_true, Vl.snoc_int, Vl.aIsi, Vl.isi_bl_bool, Vl.isi_bl_int, Vl.isi_int_int, Vl.isi_int_bool, Vl.isi_non_int, Vl.isi_non_bool, Vl.isi_lst_list, Vl.isi_tup_list, Vl.isi_tup_tuple, Vl.isi_non_tuple, Vl.isi_non_list, Vl.isi_str_str, Vl.isi_lst_bool, Vl.isi_str_bool, Vl.isi_tup_bool, Vl.ixD_0, Vl.ixD_1, Vl.ixD_2, Vl.ixD_3, Vl.ixD_4, Vl.ixD_5, Vl.ixD_6, Vl.ixD_7, Vl.ixD_8, Vl.ixD_9, Vl.ixD_10, Vl.ixD_11, Vl.aFld, Vl.aMeth, Vl.aMake, Vl.aMakeK, Vl.mInsert, Vl.aIndex, Vl.fMax1_eq, Vl.fSorted_eq, List.getElem?_cons_zero, List.getElem?_cons_succ, List.cons_append, List.nil_append, Vl.aPar, Vl.aIsO, Vl.dNeS, Vl.aDNew, Vl.dEqO, Vl.aDGet, Vl.aDIx, Vl.dInD, Vl.kidsW, Vl.keyO, Vl.keyF, Vl.keysF, Vl.getK_map, Vl.M.toDs, Vl.refM, Vl.bwM, Vl.owM, Vl.aMakeO, Vl.aSetX, Vl.aSetCX, Vl.aDropX, Vl.aRetX, Vl.aAsgGX, Vl.aIfX, Vl.xP, Vl.tP, Vl.aBX, Vl.aAndX, Vl.aOrX, Vl.aNotX, Vl.aBinX, Vl.aCallL, Vl.aMethL, Vl.alHere, Vl.alCons, Vl.setP, Vl.apV, Vl.apFld, Vl.apIx, Vl.apKey, Vl.aMutP, Vl.aFSet, Vl.aDPutP, Vl.kidW, Vl.putM, Vl.dctM, Vl.aLstO, Vl.aoCons, Vl.aoNil, Vl.aDisp, Vl.dispGo, Vl.iLstG, Vl.xMut, Vl.fLenD, Vl.one, Vl.mRemove, Vl.apW, Vl.allW_nil, Vl.allW_cons, Vl.anHere, Vl.anCons, Vl.aCallN, Vl.aCallF, Vl.clAlls, Vl.clAll, Vl.flatW, Vl.flatD, Vl.flatDs, Bool.and_true, Bool.true_and, Vl.aDNewM, Vl.fSortT_eq, Vl.fSortDT_eq, Vl.fMinD_eq, Vl.fMaxD_eq, Vl.aForX_eq, Vl.aCallK, Vl.aCallD, Vl.xSortPop, Vl.dEqS, Vl.aSlT, Vl.aClE, Vl.aLenSet, Vl.aMakeD])
namespace Vl
open PySem PySem.Spec PyProof.Rows L2
/-! ### is_path (a file that laws share; RouV has PathP too: import one of both) -/
/-- a row of nodes is a path -/
def PathP (N : NetV) (r : List Int) : Prop := 2 ≤ r.length ∧ r.Nodup ∧ (∀ k, k < r.length → (hostN N (r.getD k 0) = true ↔ k = 0 ∨ k + 1 = r.length)) ∧ ∀ k, k + 1 < r.length → joinN N (r.getD k 0) (r.getD (k + 1) 0) ≠ none
theorem ixD_last {r : List Int} (h : 1 ≤ r.length) : ixD (r.map D.int) (-1) = some (.int (r.getD (r.length - 1) 0)) := by
  unfold ixD
  rw [if_neg (by decide), List.length_map, if_pos (by omega), List.getElem?_map, show ((-1 : Int) + (r.length : Int)).toNat = r.length - 1 by omega, getD_at (by omega)]
  rfl
/-- the inner nodes -/
def innL (r : List Int) : List Int := (r.drop 1).take (r.length - 2)
theorem cut_inn {r : List Int} (h : 2 ≤ r.length) : cutD (r.map D.int) (some 1) (some (-1)) = (innL r).map D.int := by
  rw [cutD_cutL]
  congr 1
  unfold cutL innL
  have e1 : HT.sIx r.length 0 (some 1) = 1 := by
    unfold HT.sIx
    simp
    omega
  have e2 : HT.sIx r.length r.length (some (-1)) = r.length - 1 := by
    unfold HT.sIx
    simp
    omega
  rw [e1, e2]
  congr 1
theorem mem_inn {r : List Int} {x : Int} : x ∈ innL r ↔ ∃ k, 1 ≤ k ∧ k + 1 < r.length ∧ r.getD k 0 = x := by
  unfold innL
  rw [List.mem_iff_getElem?]
  constructor
  · rintro ⟨i, hi⟩
    rw [List.getElem?_take] at hi
    split at hi
    · rename_i q
      rw [List.getElem?_drop] at hi
      exact ⟨1 + i, by omega, by omega, by rw [List.getD_eq_getElem?_getD, hi]; rfl⟩
    · cases hi
  · rintro ⟨k, h1, h2, h3⟩
    refine ⟨k - 1, ?_⟩
    rw [List.getElem?_take, if_pos (by omega), List.getElem?_drop, show 1 + (k - 1) = k by omega, getD_at (by omega), h3]
def c_is_path : Ct := fun ws Q => ∃ (N : NetV) (r : List Int), ws = [.cl (.ins 0 [.lst (N.ks.map kD), .lst (N.ls.map lnD), .int N.pr, .int N.er]), .cl (.lst (r.map .int))] ∧ (∀ x ∈ r, 0 ≤ x ∧ x < N.ks.length) ∧ (1 ≤ r.length ∧ r.length ≤ 1000) ∧ ∀ b : Bool, (b = true ↔ PathP N r) → Q (.cl (.bl b))
theorem l_is_path : ∀ ws P, c_is_path ws P → ws.length = 2 := by rintro ws P ⟨N, r, rfl, _⟩; rfl
/-- is_path: slots 0=net 1=nodes 2=node 3=a 4=b -/
def a_is_path : AS :=
  aSeq (aIf (aOr (aB (aBin (dLt) (aCB fLen1 (aCons (aV 1) (aNil))) (aC (.int 2)))) (aB (aBin (dNe) (aLenSet (aV 1)) (aCB fLen1 (aCons (aV 1) (aNil)))))) (aRet (aC (.bl false))) (aNext)) (aSeq (aIf (aOr (aB (aBin (dNe) (aBin dIx (aFld 0 0 (aV 0)) (aBin dIx (aV 1) (aC (.int 0)))) (aC (.str "host")))) (aB (aBin (dNe) (aBin dIx (aFld 0 0 (aV 0)) (aBin dIx (aV 1) (aUn dNeg (aC (.int 1))))) (aC (.str "host"))))) (aRet (aC (.bl false))) (aNext)) (aSeq (aFor (iLst (aSl (aV 1) (aoS (aC (.int 1))) (aoS (aUn dNeg (aC (.int 1)))))) (agN 2) (aIf (aB (aBin (dNe) (aBin dIx (aFld 0 0 (aV 0)) (aV 2)) (aC (.str "switch")))) (aRet (aC (.bl false))) (aNext))) (aSeq (aFor (iLst (aCall c_ports_of (aCons (aV 1) (aNil)))) (agT 2 (agCons (agN 3) (agCons (agN 4) (agNil)))) (aIf (aB (aBin (dIsN) (aMeth 0 c_Net_delay (aV 0) (aCons (aV 3) (aCons (aV 4) (aNil)))) (aC .non))) (aRet (aC (.bl false))) (aNext))) (aRet (aC (.bl true))))))
theorem w_is_path : ∀ ws P, c_is_path ws P → a_is_path { nx := fun _ => P (.cl .non), rt := fun w _ => P w } (startA 5 ws) := by
  rintro ws P ⟨N, r, rfl, hr, ⟨hl1, hl⟩, h⟩
  show a_is_path _ [.im (.ins 0 [.lst (N.ks.map kD), .lst (N.ls.map lnD), .int N.pr, .int N.er]), .im (.lst (r.map .int)), .non, .non, .non]
  have no : ¬ PathP N r → P (.cl (.bl false)) := fun z => h false ⟨fun y => (nomatch y), fun y => absurd y z⟩
  have os : okD (.str "host") = true := okD_k true
  have os2 : okD (.str "switch") = true := okD_k false
  unfold a_is_path
  walk_at "vs"
  by_cases q0 : (r.length : Int) < 2
  · exact ite_yes q0 (no fun z => by have := z.1; omega)
  refine ite_no q0 ⟨r, rfl, hl, ?_⟩
  by_cases q1 : r.Nodup
  · have hu := (uniq_nodup r).mpr q1
    refine ite_no (by rw [hu]; simp) ?_
    have g0 := hr _ (List.mem_of_getElem? (getD_at (show 0 < r.length by omega)))
    have gl := hr _ (List.mem_of_getElem? (getD_at (show r.length - 1 < r.length by omega)))
    rw [ixD_map D.int (by decide) (show r[(0 : Int).toNat]? = some (r.getD 0 0) from getD_at (by omega)), ixD_last (by omega)]
    simp only []
    rw [ixD_kD g0.1 g0.2, ixD_kD gl.1 gl.2]
    simp only []
    refine ⟨okD_k _, os, ?_⟩
    rw [show eqD (kD (N.ks.getD (r.getD 0 0).toNat false)) (.str (Str.ofString "host")) = hostN N (r.getD 0 0) from eqD_kh _]
    cases q2 : hostN N (r.getD 0 0) with
    | false => exact ite_yes rfl (no fun z => by have := (z.2.2.1 0 (by omega)).mpr (.inl rfl); rw [q2] at this; cases this)
    | true =>
      refine ite_no (fun z => nomatch z) ⟨okD_k _, os, ?_⟩
      have e2 : eqD (kD (N.ks.getD (r.getD (r.length - 1) 0).toNat false)) (.str (Str.ofString "host")) = hostN N (r.getD (r.length - 1) 0) := eqD_kh _
      cases q3 : hostN N (r.getD (r.length - 1) 0) with
      | false => exact ite_yes (by rw [e2, q3]; rfl) (no fun z => by have := (z.2.2.1 (r.length - 1) (by omega)).mpr (.inr (by omega)); rw [q3] at this; cases this)
      | true =>
        refine ite_no (by rw [e2, q3]; exact fun z => nomatch z) ?_
        rw [cut_inn (by omega)]
        have hin : ∀ x ∈ innL r, 0 ≤ x ∧ x < N.ks.length := fun x hx => by
          obtain ⟨k, _, k2, rfl⟩ := mem_inn.mp hx
          exact hr _ (List.mem_of_getElem? (getD_at (by omega)))
        refine for_map D.int (innL r) (fun rest δ => (∃ x, δ = [.im (.ins 0 [.lst (N.ks.map kD), .lst (N.ls.map lnD), .int N.pr, .int N.er]), .im (.lst (r.map .int)), x, .non, .non]) ∧ ∀ x ∈ innL r, x ∈ rest ∨ hostN N x = false) ⟨⟨_, rfl⟩, fun x hx => .inl hx⟩ ?_ ?_
        · rintro x rest δ ⟨l0, hl0⟩ ⟨⟨y, rfl⟩, hI⟩
          have hx := hin x (by rw [hl0]; simp)
          walk_at "vs"
          rw [ixD_kD hx.1 hx.2]
          simp only []
          refine ⟨okD_k _, os2, ?_⟩
          have e3 : eqD (kD (N.ks.getD x.toNat false)) (.str (Str.ofString "switch")) = !hostN N x := eqD_ks _
          cases q4 : hostN N x with
          | true =>
            refine ite_yes (by rw [e3, q4]; rfl) (no fun z => ?_)
            obtain ⟨k, k1, k2, k3⟩ := mem_inn.mp (show x ∈ innL r by rw [hl0]; simp)
            have := (z.2.2.1 k (by omega)).mp (by rw [k3]; exact q4)
            omega
          | false =>
            refine ite_no (by rw [e3, q4]; exact fun z => nomatch z) ⟨⟨_, rfl⟩, fun w hw => ?_⟩
            rcases hI w hw with z | z
            · rcases List.mem_cons.mp z with z | z
              · exact .inr (by rw [z]; exact q4)
              · exact .inl z
            · exact .inr z
        · rintro δ ⟨⟨y, rfl⟩, hI⟩
          walk_at "vs"
          refine ⟨r, rfl, ⟨hl1, hl⟩, ?_⟩
          walk_at "vs"
          refine for_map pD (portsL r) (fun rest δ => (∃ x y z, δ = [.im (.ins 0 [.lst (N.ks.map kD), .lst (N.ls.map lnD), .int N.pr, .int N.er]), .im (.lst (r.map .int)), x, y, z]) ∧ ∀ q ∈ portsL r, q ∈ rest ∨ joinN N q.1 q.2 ≠ none) ⟨⟨_, _, _, rfl⟩, fun q hq => .inl hq⟩ ?_ ?_
          · rintro ⟨a, b⟩ rest δ ⟨l0, hl0⟩ ⟨⟨x1, x2, x3, rfl⟩, hJ⟩
            rw [show pD (a, b) = .tup [.int a, .int b] from rfl]
            walk_at "vs"
            refine ⟨N, a, b, rfl, ?_⟩
            cases hj : joinN N a b with
            | none =>
              simp only [optI]
              refine no fun z => ?_
              obtain ⟨o, o1, o2⟩ := portsL_mem.mp (show (a, b) ∈ portsL r by rw [hl0]; simp)
              have := z.2.2.2 o (by omega)
              have e := Prod.mk.inj o2
              rw [← e.1, ← e.2] at this
              exact this hj
            | some t =>
              simp only [optI]
              refine ⟨⟨_, _, _, rfl⟩, fun q hq => ?_⟩
              rcases hJ q hq with z | z
              · rcases List.mem_cons.mp z with z | z
                · exact .inr (by rw [z, hj]; exact fun y => nomatch y)
                · exact .inl z
              · exact .inr z
          · rintro δ ⟨⟨x1, x2, x3, rfl⟩, hJ⟩
            walk_at "vs"
            refine h true ⟨fun _ => ⟨by omega, q1, fun k hk => ?_, fun k hk => ?_⟩, fun _ => rfl⟩
            · constructor
              · intro z
                apply Classical.byContradiction
                intro w
                have := (hI (r.getD k 0) (mem_inn.mpr ⟨k, by omega, by omega, rfl⟩)).elim (fun y => nomatch y) id
                rw [z] at this; cases this
              · rintro (z | z)
                · rw [z]; exact q2
                · rw [show k = r.length - 1 by omega]; exact q3
            · exact (hJ (r.getD k 0, r.getD (k + 1) 0) (portsL_mem.mpr ⟨k, by omega, rfl⟩)).elim (fun y => nomatch y) id
  · exact ite_yes (by rw [decide_eq_false (fun z => q1 ((uniq_nodup r).mp (by omega)))]; rfl) (no fun z => q1 z.2.1)
theorem FoundT.path {N : NetV} {m : Nat} (hm : m ≤ 4) {r : List Int} (h : FoundT N m r) : PathP N r := by
  have ok := FoundT.ok hm h
  obtain ⟨w1, w2⟩ := h.way
  have f := h.first
  have l2 := ok.l2
  refine ⟨l2, ok.nd, fun k hk => ?_, fun k hk => ok.jn k _ _ (getD_at (by omega)) (getD_at hk)⟩
  by_cases q : 1 ≤ k ∧ k + 1 < r.length
  · rw [w1 k q.1 q.2]
    exact ⟨fun z => (nomatch z), fun z => by omega⟩
  · refine ⟨fun _ => by omega, fun z => ?_⟩
    rcases z with z | z
    · rw [z]; exact f
    · rw [show k = r.length - 1 by omega]; exact w2
end Vl
set_option maxHeartbeats 2000000
local macro_rules | `(tactic| walk_at "vs") => `(tactic| simp only [Vl.aSeq, Vl.aFor_eq, Vl.aIf, Vl.aB, Vl.aBin, Vl.aUn, Vl.aV, Vl.slotW, Vl.gt_z, Vl.gt_s, Vl.aCB, Vl.aCall, Vl.aCons, Vl.aNil, Vl.argW, Vl.dLt_eq, Vl.dLe_eq, Vl.dGt_eq, Vl.dGe_eq, Vl.dI0, Vl.dI, Vl.dAdd, Vl.dSub_eq, Vl.dMul, Vl.dDiv_eq, Vl.dMod_eq, Vl.dPow_eq, Vl.dShl_eq, Vl.dNeg, Vl.dNot, Vl.dIsN, Vl.dNotN, Vl.dEq, Vl.dNe, Vl.dIn, Vl.dIx, Vl.fLen_lst, Vl.fLen_tup, Vl.fLen_ow, Vl.fLen_bw, Vl.fLen_scr, Vl.fLen_str, Vl.fInt_int, Vl.fInt_bl, Vl.fAbs_int, Vl.fMax_int, Vl.fMin_int, Vl.fGcd_int, Vl.fLcm_int, Vl.fList_lst, Vl.fList_tup, Vl.fList_ow, Vl.fList_bw, Vl.fList_scr, Vl.seqC, Vl.lstC, Vl.itemsC, Vl.clW, Vl.W.toD, Vl.M.toD, Vl.clDs, Option.map_some, Option.map_none,
  Vl.aRet, Vl.aRetV, Vl.aRetN, Vl.aNext, Vl.aBreak, Vl.aCont, Vl.aC, Vl.aSet, Vl.aSetC, Vl.slotA, Vl.aDrop, Vl.aAsgG, Vl.agN, Vl.agT, Vl.agCons, Vl.agNil, Vl.iLst, Vl.iTup, Vl.iR1, Vl.iR2, Vl.aTup, Vl.aLst, Vl.aAnd, Vl.aOr, Vl.aNot, Vl.aAndV, Vl.aOrV, Vl.aIfE, Vl.aSl, Vl.aoS, Vl.aoN, Vl.aChain, Vl.aAugAdd, Vl.aAugSub, Vl.aMut, Vl.aMutS, Vl.mAppend, Vl.mPop, Vl.mPopAt, Vl.mReverse, Vl.tyM, Vl.aFrz, Vl.frz, Vl.aSetIx, Vl.aLc, Vl.wipeA, Vl.aYes,
  List.set_cons_zero, List.set_cons_succ, List.length_map, List.length_cons, List.length_nil, decide_eq_true_eq, Bool.not_true, Bool.not_false, if_true, if_false, Bool.false_eq_true, Vl.okD_int, Vl.okD_bl, Vl.okD_non, Vl.eqD_int, Vl.eqD_bl, Vl.eqD_non, true_and, and_true, Vl.snoc_int, Vl.aIsi, Vl.isi_bl_bool, Vl.isi_bl_int, Vl.isi_int_int, Vl.isi_int_bool, Vl.isi_non_int, Vl.isi_non_bool, Vl.isi_lst_list, Vl.isi_tup_list, Vl.isi_tup_tuple, Vl.isi_non_tuple, Vl.isi_non_list, Vl.isi_str_str, Vl.isi_lst_bool, Vl.isi_str_bool, Vl.isi_tup_bool, Vl.ixD_0, Vl.ixD_1, Vl.ixD_2, Vl.ixD_3, Vl.ixD_4, Vl.ixD_5, Vl.ixD_6, Vl.ixD_7, Vl.ixD_8, Vl.ixD_9, Vl.ixD_10, Vl.ixD_11, Vl.aFld, Vl.aMeth, Vl.aMake, Vl.aMakeK, Vl.mInsert, Vl.aIndex, Vl.fMax1_eq, Vl.fSorted_eq, List.getElem?_cons_zero, List.getElem?_cons_succ, List.cons_append, List.nil_append, Vl.aPar, Vl.aIsO, Vl.dNeS, Vl.aDNew, Vl.dEqO, Vl.aDGet, Vl.aDIx, Vl.dInD, Vl.kidsW, Vl.keyO, Vl.keyF, Vl.keysF, Vl.getK_map, Vl.M.toDs, Vl.refM, Vl.bwM, Vl.owM, Vl.aMakeO, Vl.aSetX, Vl.aSetCX, Vl.aDropX, Vl.aRetX, Vl.aAsgGX, Vl.aIfX, Vl.xP, Vl.tP, Vl.aBX, Vl.aAndX, Vl.aOrX, Vl.aNotX, Vl.aBinX, Vl.aCallL, Vl.aMethL, Vl.alHere, Vl.alCons, Vl.setP, Vl.apV, Vl.apFld, Vl.apIx, Vl.apKey, Vl.aMutP, Vl.aFSet, Vl.aDPutP, Vl.kidW, Vl.putM, Vl.dctM, Vl.aLstO, Vl.aoCons, Vl.aoNil, Vl.aDisp, Vl.dispGo, Vl.iLstG, Vl.xMut, Vl.fLenD, Vl.one, Vl.mRemove, Vl.apW, Vl.allW_nil, Vl.allW_cons, Vl.anHere, Vl.anCons, Vl.aCallN, Vl.aCallF, Vl.clAlls, Vl.clAll, Vl.flatW, Vl.flatD, Vl.flatDs, Bool.and_true, Bool.true_and, Vl.aDNewM, Vl.fSortT_eq, Vl.fSortDT_eq, Vl.fMinD_eq, Vl.fMaxD_eq, Vl.aForX_eq, Vl.aCallK, Vl.aCallD, Vl.xSortPop, Vl.dEqS, Vl.aSlT, Vl.aClE, Vl.aLenSet, Vl.aMakeD])
namespace Vl
open PySem PySem.Spec PyProof.Rows L2
/-! ### words that may be numbers -/
def chs (w : Str) : List Nat := w.cps.toList
structure WordOk (w : Str) : Prop where
  n9 : w.length ≤ 9
  ne : chs w ≠ []
  z : ¬ (1 < w.length ∧ (chs w).head? = some 48)
  d : ∀ c ∈ chs w, 48 ≤ c ∧ c ≤ 57
def wordV (w : Str) : Int := (PySem.intText? w).getD 0
def NumOk (w : Str) (lo hi : Int) : Prop := WordOk w ∧ lo ≤ wordV w ∧ wordV w ≤ hi
theorem chs_len (w : Str) : (chs w).length = w.length := Array.length_toList
theorem WordOk.int {w : Str} (h : WordOk w) : PySem.intText? w = some (wordV w) := by
  have := PySem.intText_digits (x := w) h.d h.ne (by have := h.n9; omega)
  unfold wordV
  rw [this]
  rfl
theorem empty_iff (w : Str) : w = Str.ofString "" ↔ chs w = [] := by
  constructor
  · rintro rfl; rfl
  · intro h
    obtain ⟨a⟩ := w
    have : a.toList = [] := h
    have : a = #[] := by cases a; simp_all
    rw [this]; rfl
theorem numOk_or (w : Str) (lo hi : Int) : NumOk w lo hi ∨ ¬ NumOk w lo hi := Classical.em _
def c__number : CtE := fun ws Q ex => ∃ (w : Str) (lo hi pl : Int), ws = [.cl (.str w), .cl (.int lo), .cl (.int hi), .cl (.int pl)] ∧ PyData.strOk w = true ∧ w.length ≤ 1000000 ∧ (NumOk w lo hi → Q (.cl (.int (wordV w)))) ∧ (¬ NumOk w lo hi → ex pl)
theorem l__number : ∀ ws P R, c__number ws P R → ws.length = 4 := by rintro ws P R ⟨w, lo, hi, pl, rfl, _⟩; rfl
theorem head_c {w : Str} (h : chs w ≠ []) : ∃ c, (chs w).head? = some c ∧ atI w.cps.toList 0 = some c := by
  cases e : chs w with
  | nil => exact absurd e h
  | cons c r =>
    refine ⟨c, rfl, ?_⟩
    rw [show w.cps.toList = c :: r from e]
    unfold atI ixN
    simp
theorem eq0_iff (c : Nat) : (⟨#[c]⟩ : Str) = Str.ofString "0" ↔ c = 48 := by
  have e1 : (Str.ofString "0") = ⟨#[48]⟩ := by decide +kernel
  rw [e1]
  constructor
  · intro h
    have := congrArg (fun x : Str => x.cps.toList) h
    simpa using this
  · rintro rfl; rfl
theorem okC {w : Str} (h : PyData.strOk w = true) {c : Nat} (hc : c ∈ chs w) : okD (.str ⟨#[c]⟩) = true := okD_str _ (by
  have := (show ∀ c ∈ chs w, c < 0x110000 by
    unfold PyData.strOk at h
    rw [← Array.all_toList, List.all_eq_true] at h
    exact fun c hc => of_decide_eq_true (h c hc)) c hc
  unfold PyData.strOk
  simp
  omega)
theorem dig_iff (c : Nat) : c ∈ (Str.ofString "0123456789").cps.toList ↔ 48 ≤ c ∧ c ≤ 57 := by
  have e1 : (Str.ofString "0123456789").cps.toList = [48, 49, 50, 51, 52, 53, 54, 55, 56, 57] := by decide +kernel
  rw [e1]
  simp
  omega
/-- _number: slots 0=word 1=least 2=most 3=place 4=char -/
def a__number (ex : Int → Prop) : AS :=
  aSeq (aIf (aOr (aB (aBin (dGt) (aCB fLen1 (aCons (aV 0) (aNil))) (aC (.int 9)))) (aOr (aB (aBin (dEq) (aV 0) (aC (.str "")))) (aAnd (aB (aBin (dGt) (aCB fLen1 (aCons (aV 0) (aNil))) (aC (.int 1)))) (aB (aBin (dEq) (aBin dIxC (aV 0) (aC (.int 0))) (aC (.str "0"))))))) (aRaise ex (aV 3)) (aNext)) (aSeq (aFor (iStrA (aV 0)) (agN 4) (aIf (aB (aBin (dInC true) (aV 4) (aC (.str "0123456789")))) (aRaise ex (aV 3)) (aNext))) (aSeq (aIf (aNot (aB (aChain (fun i j => decide (i ≤ j)) (fun i j => decide (i ≤ j)) (aV 1) (aCB fIntS (aCons (aV 0) (aNil))) (aV 2)))) (aRaise ex (aV 3)) (aNext)) (aRet (aCB fIntS (aCons (aV 0) (aNil))))))
theorem w__number : ∀ ws P R, c__number ws P R → a__number R { nx := fun _ => P (.cl .non), rt := fun w _ => P w } (startA 5 ws) := by
  rintro ws P R ⟨w, lo, hi, pl, rfl, hw, hl, hy, hn⟩
  show a__number R _ [.im (.str w), .im (.int lo), .im (.int hi), .im (.int pl), .non]
  have no : (WordOk w → False) → R pl := fun h => hn fun z => h z.1
  have okw := okD_str _ hw
  have oke : okD (.str (Str.ofString "")) = true := okD_str _ (by decide +kernel)
  have ok0 : okD (.str (Str.ofString "0")) = true := okD_str _ (by decide +kernel)
  unfold a__number aRaise
  walk_at "vs"
  refine ⟨hl, ?_⟩
  by_cases h9 : 9 < (w.length : Int)
  · exact ite_yes h9 ⟨pl, rfl, no fun z => by have := z.n9; omega⟩
  refine ite_no h9 ⟨okw, oke, ?_⟩
  by_cases he : chs w = []
  · exact ite_yes (by rw [eqD_str]; exact decide_eq_true ((empty_iff w).mpr he)) ⟨pl, rfl, no fun z => z.ne he⟩
  refine ite_no (by rw [eqD_str, decide_eq_false fun z => he ((empty_iff w).mp z)]; exact fun z => nomatch z) ⟨hl, ?_⟩
  obtain ⟨c, hc, hat⟩ := head_c he
  have hcm : c ∈ chs w := List.mem_of_mem_head? hc
  have rest : (¬ (1 < w.length ∧ (chs w).head? = some 48)) → iStrA (aV 0) [AV.im (D.str w), AV.im (D.int lo), AV.im (D.int hi), AV.im (D.int pl), AV.non] fun ds => Loop (agN 4) (aIf (aB (aBin (dInC true) (aV 4) (aC (D.str (Str.ofString "0123456789"))))) (aRaise R (aV 3)) aNext)
      { nx := aSeq (aIf (aNot (aB (aChain (fun i j => decide (i ≤ j)) (fun i j => decide (i ≤ j)) (aV 1) (aCB fIntS (aCons (aV 0) aNil)) (aV 2)))) (aRaise R (aV 3)) aNext) (aRet (aCB fIntS (aCons (aV 0) aNil))) { nx := fun _ => P (.cl .non), rt := fun w _ => P w }, rt := fun w _ => P w } [AV.im (D.str w), AV.im (D.int lo), AV.im (D.int hi), AV.im (D.int pl), AV.non] ds := by
    intro hz
    simp only [iStrA]
    walk_at "vs"
    refine for_lst (signsD w) (fun r δ => (∃ x, δ = [.im (.str w), .im (.int lo), .im (.int hi), .im (.int pl), x]) ∧ ∀ c ∈ chs w, D.str ⟨#[c]⟩ ∈ r ∨ (48 ≤ c ∧ c ≤ 57)) ⟨⟨_, rfl⟩, fun c hc => .inl (List.mem_map.mpr ⟨c, hc, rfl⟩)⟩ ?_ ?_
    · rintro y r δ ⟨l0, hl0⟩ ⟨⟨x, rfl⟩, hI⟩
      have hy : y ∈ signsD w := by rw [hl0]; simp
      obtain ⟨c, hc, rfl⟩ := List.mem_map.mp hy
      unfold aRaise
      walk_at "vs"
      simp only [dInC]
      refine ⟨c, rfl, ?_⟩
      simp only [if_true]
      by_cases hd : 48 ≤ c ∧ c ≤ 57
      · refine ite_no (by rw [decide_eq_true ((dig_iff c).mpr hd)]; exact fun z => nomatch z) ⟨⟨_, rfl⟩, fun c' hc' => ?_⟩
        rcases hI c' hc' with q | q
        · rcases List.mem_cons.mp q with q | q
          · right
            have : (⟨#[c']⟩ : Str) = ⟨#[c]⟩ := D.str.inj q
            have := congrArg (fun x : Str => x.cps.toList) this
            have e : c' = c := by simpa using this
            rw [e]; exact hd
          · exact .inl q
        · exact .inr q
      · exact ite_yes (by rw [decide_eq_false fun z => hd ((dig_iff c).mp z)]; rfl) ⟨pl, rfl, no fun z => hd (z.d c hc)⟩
    · rintro δ ⟨⟨x, rfl⟩, hI⟩
      have wok : WordOk w := ⟨by omega, he, hz, fun c hc => (hI c hc).elim (fun z => nomatch z) id⟩
      have hv := wok.int
      have n9 := wok.n9
      unfold aRaise
      walk_at "vs"
      simp only [fIntS, one]
      refine ⟨wordV w, hv, by omega, ?_⟩
      by_cases h1 : lo ≤ wordV w
      · refine ite_yes h1 ?_
        by_cases h2 : wordV w ≤ hi
        · exact ite_no (by rw [decide_eq_true h2]; exact fun z => nomatch z) ⟨wordV w, hv, by omega, hy ⟨wok, h1, h2⟩⟩
        · exact ite_yes (by rw [decide_eq_false h2]; rfl) ⟨pl, rfl, hn fun z => h2 z.2.2⟩
      · exact ite_no h1 ⟨pl, rfl, hn fun z => h1 z.2.1⟩
  by_cases q : 1 < (w.length : Int)
  · refine ite_yes q ?_
    simp only [dIxC]
    refine ⟨c, hl, hat, okC hw hcm, ok0, ?_⟩
    by_cases h48 : c = 48
    · exact ite_yes (by show eqD (.str ⟨#[c]⟩) (.str (Str.ofString "0")) = true; rw [eqD_str]; exact decide_eq_true ((eq0_iff c).mpr h48)) ⟨pl, rfl, no fun z => z.z ⟨by omega, by rw [hc, h48]⟩⟩
    · refine ite_no (by show ¬ eqD (.str ⟨#[c]⟩) (.str (Str.ofString "0")) = true; rw [eqD_str, decide_eq_false fun z => h48 ((eq0_iff c).mp z)]; exact fun z => nomatch z) (rest fun z => h48 (Option.some.inj (hc.symm.trans z.2)))
  · exact ite_no q (rest fun z => q (by have := z.1; omega))
def c__law_number : Ct := fun ws Q => ∃ (w : Str) (lo hi : Int), ws = [.cl (.str w), .cl (.int lo), .cl (.int hi)] ∧ PyData.strOk w = true ∧ w.length ≤ 1000000 ∧ (NumOk w lo hi → Q (.cl (.int (wordV w)))) ∧ (¬ NumOk w lo hi → Q (.cl .non))
theorem l__law_number : ∀ ws P, c__law_number ws P → ws.length = 3 := by rintro ws P ⟨w, lo, hi, rfl, _⟩; rfl
/-- _law_number: slots 0=_law_word_here 1=_law_low 2=_law_high 3=_law_sign -/
def a__law_number : AS :=
  aSeq (aIf (aOr (aB (aBin (dEq) (aV 0) (aC (.str "")))) (aOr (aB (aBin (dGt) (aCB fLen1 (aCons (aV 0) (aNil))) (aC (.int 9)))) (aAnd (aB (aBin (dEq) (aBin dIxC (aV 0) (aC (.int 0))) (aC (.str "0")))) (aB (aBin (dGt) (aCB fLen1 (aCons (aV 0) (aNil))) (aC (.int 1))))))) (aRet (aC .non)) (aNext)) (aSeq (aFor (iStrA (aV 0)) (agN 3) (aIf (aB (aBin (dInC true) (aV 3) (aC (.str "0123456789")))) (aRet (aC .non)) (aNext))) (aSeq (aIf (aB (aChain (fun i j => decide (i ≤ j)) (fun i j => decide (i ≤ j)) (aV 1) (aCB fIntS (aCons (aV 0) (aNil))) (aV 2))) (aRet (aCB fIntS (aCons (aV 0) (aNil)))) (aNext)) (aRet (aC .non))))
theorem w__law_number : ∀ ws P, c__law_number ws P → a__law_number { nx := fun _ => P (.cl .non), rt := fun w _ => P w } (startA 4 ws) := by
  rintro ws P ⟨w, lo, hi, rfl, hw, hl, hy, hn⟩
  show a__law_number _ [.im (.str w), .im (.int lo), .im (.int hi), .non]
  have no : (WordOk w → False) → P (.cl .non) := fun h => hn fun z => h z.1
  have okw := okD_str _ hw
  have oke : okD (.str (Str.ofString "")) = true := okD_str _ (by decide +kernel)
  have ok0 : okD (.str (Str.ofString "0")) = true := okD_str _ (by decide +kernel)
  unfold a__law_number
  walk_at "vs"
  refine ⟨okw, oke, ?_⟩
  by_cases he : chs w = []
  · exact ite_yes (by rw [eqD_str]; exact decide_eq_true ((empty_iff w).mpr he)) (no fun z => z.ne he)
  refine ite_no (by rw [eqD_str, decide_eq_false fun z => he ((empty_iff w).mp z)]; exact fun z => nomatch z) ⟨hl, ?_⟩
  by_cases h9 : 9 < (w.length : Int)
  · exact ite_yes h9 (no fun z => by have := z.n9; omega)
  refine ite_no h9 ?_
  obtain ⟨c, hc, hat⟩ := head_c he
  have hcm : c ∈ chs w := List.mem_of_mem_head? hc
  simp only [dIxC]
  refine ⟨c, hl, hat, okC hw hcm, ok0, ?_⟩
  have rest : (¬ (1 < w.length ∧ (chs w).head? = some 48)) → iStrA (aV 0) [AV.im (D.str w), AV.im (D.int lo), AV.im (D.int hi), AV.non] fun ds => Loop (agN 3) (aIf (aB (aBin (dInC true) (aV 3) (aC (D.str (Str.ofString "0123456789"))))) (aRet (aC .non)) aNext)
      { nx := aSeq (aIf (aB (aChain (fun i j => decide (i ≤ j)) (fun i j => decide (i ≤ j)) (aV 1) (aCB fIntS (aCons (aV 0) aNil)) (aV 2))) (aRet (aCB fIntS (aCons (aV 0) aNil))) aNext) (aRet (aC .non)) { nx := fun _ => P (.cl .non), rt := fun w _ => P w }, rt := fun w _ => P w } [AV.im (D.str w), AV.im (D.int lo), AV.im (D.int hi), AV.non] ds := by
    intro hz
    simp only [iStrA]
    walk_at "vs"
    refine for_lst (signsD w) (fun r δ => (∃ x, δ = [.im (.str w), .im (.int lo), .im (.int hi), x]) ∧ ∀ c ∈ chs w, D.str ⟨#[c]⟩ ∈ r ∨ (48 ≤ c ∧ c ≤ 57)) ⟨⟨_, rfl⟩, fun c hc => .inl (List.mem_map.mpr ⟨c, hc, rfl⟩)⟩ ?_ ?_
    · rintro y r δ ⟨l0, hl0⟩ ⟨⟨x, rfl⟩, hI⟩
      have hy : y ∈ signsD w := by rw [hl0]; simp
      obtain ⟨c, hc, rfl⟩ := List.mem_map.mp hy
      walk_at "vs"
      simp only [dInC]
      refine ⟨c, rfl, ?_⟩
      simp only [if_true]
      by_cases hd : 48 ≤ c ∧ c ≤ 57
      · refine ite_no (by rw [decide_eq_true ((dig_iff c).mpr hd)]; exact fun z => nomatch z) ⟨⟨_, rfl⟩, fun c' hc' => ?_⟩
        rcases hI c' hc' with q | q
        · rcases List.mem_cons.mp q with q | q
          · right
            have : (⟨#[c']⟩ : Str) = ⟨#[c]⟩ := D.str.inj q
            have := congrArg (fun x : Str => x.cps.toList) this
            have e : c' = c := by simpa using this
            rw [e]; exact hd
          · exact .inl q
        · exact .inr q
      · exact ite_yes (by rw [decide_eq_false fun z => hd ((dig_iff c).mp z)]; rfl) (no fun z => hd (z.d c hc))
    · rintro δ ⟨⟨x, rfl⟩, hI⟩
      have wok : WordOk w := ⟨by omega, he, hz, fun c hc => (hI c hc).elim (fun z => nomatch z) id⟩
      have hv := wok.int
      have n9 := wok.n9
      walk_at "vs"
      simp only [fIntS, one]
      refine ⟨wordV w, hv, by omega, ?_⟩
      by_cases h1 : lo ≤ wordV w
      · refine ite_yes h1 ?_
        by_cases h2 : wordV w ≤ hi
        · exact ite_yes h2 ⟨wordV w, hv, by omega, hy ⟨wok, h1, h2⟩⟩
        · exact ite_no h2 (hn fun z => h2 z.2.2)
      · exact ite_no h1 (hn fun z => h1 z.2.1)
  by_cases h48 : c = 48
  · refine ite_yes (by show eqD (.str ⟨#[c]⟩) (.str (Str.ofString "0")) = true; rw [eqD_str]; exact decide_eq_true ((eq0_iff c).mpr h48)) ⟨hl, ?_⟩
    by_cases q : 1 < (w.length : Int)
    · exact ite_yes q (no fun z => z.z ⟨by omega, by rw [hc, h48]⟩)
    · exact ite_no q (rest fun z => q (by have := z.1; omega))
  · exact ite_no (by show ¬ eqD (.str ⟨#[c]⟩) (.str (Str.ofString "0")) = true; rw [eqD_str, decide_eq_false fun z => h48 ((eq0_iff c).mp z)]; exact fun z => nomatch z) (rest fun z => h48 (Option.some.inj (hc.symm.trans z.2)))
end Vl
set_option maxHeartbeats 2000000
local macro_rules | `(tactic| walk_at "vs") => `(tactic| simp only [Vl.aSeq, Vl.aFor_eq, Vl.aIf, Vl.aB, Vl.aBin, Vl.aUn, Vl.aV, Vl.slotW, Vl.gt_z, Vl.gt_s, Vl.aCB, Vl.aCall, Vl.aCons, Vl.aNil, Vl.argW, Vl.dLt_eq, Vl.dLe_eq, Vl.dGt_eq, Vl.dGe_eq, Vl.dI0, Vl.dI, Vl.dAdd, Vl.dSub_eq, Vl.dMul, Vl.dDiv_eq, Vl.dMod_eq, Vl.dPow_eq, Vl.dShl_eq, Vl.dNeg, Vl.dNot, Vl.dIsN, Vl.dNotN, Vl.dEq, Vl.dNe, Vl.dIn, Vl.dIx, Vl.fLen_lst, Vl.fLen_tup, Vl.fLen_ow, Vl.fLen_bw, Vl.fLen_scr, Vl.fLen_str, Vl.fInt_int, Vl.fInt_bl, Vl.fAbs_int, Vl.fMax_int, Vl.fMin_int, Vl.fGcd_int, Vl.fLcm_int, Vl.fList_lst, Vl.fList_tup, Vl.fList_ow, Vl.fList_bw, Vl.fList_scr, Vl.seqC, Vl.lstC, Vl.itemsC, Vl.clW, Vl.W.toD, Vl.M.toD, Vl.clDs, Option.map_some, Option.map_none,
  Vl.aRet, Vl.aRetV, Vl.aRetN, Vl.aNext, Vl.aBreak, Vl.aCont, Vl.aC, Vl.aSet, Vl.aSetC, Vl.slotA, Vl.aDrop, Vl.aAsgG, Vl.agN, Vl.agT, Vl.agCons, Vl.agNil, Vl.iLst, Vl.iTup, Vl.iR1, Vl.iR2, Vl.aTup, Vl.aLst, Vl.aAnd, Vl.aOr, Vl.aNot, Vl.aAndV, Vl.aOrV, Vl.aIfE, Vl.aSl, Vl.aoS, Vl.aoN, Vl.aChain, Vl.aAugAdd, Vl.aAugSub, Vl.aMut, Vl.aMutS, Vl.mAppend, Vl.mPop, Vl.mPopAt, Vl.mReverse, Vl.tyM, Vl.aFrz, Vl.frz, Vl.aSetIx, Vl.aLc, Vl.wipeA, Vl.aYes,
  List.set_cons_zero, List.set_cons_succ, List.length_map, List.length_cons, List.length_nil, decide_eq_true_eq, Bool.not_true, Bool.not_false, if_true, if_false, Bool.false_eq_true, Vl.okD_int, Vl.okD_bl, Vl.okD_non, Vl.eqD_int, Vl.eqD_bl, Vl.eqD_non, true_and, and_true, Vl.snoc_int, Vl.aIsi, Vl.isi_bl_bool, Vl.isi_bl_int, Vl.isi_int_int, Vl.isi_int_bool, Vl.isi_non_int, Vl.isi_non_bool, Vl.isi_lst_list, Vl.isi_tup_list, Vl.isi_tup_tuple, Vl.isi_non_tuple, Vl.isi_non_list, Vl.isi_str_str, Vl.isi_lst_bool, Vl.isi_str_bool, Vl.isi_tup_bool, Vl.ixD_0, Vl.ixD_1, Vl.ixD_2, Vl.ixD_3, Vl.ixD_4, Vl.ixD_5, Vl.ixD_6, Vl.ixD_7, Vl.ixD_8, Vl.ixD_9, Vl.ixD_10, Vl.ixD_11, Vl.aFld, Vl.aMeth, Vl.aMake, Vl.aMakeK, Vl.mInsert, Vl.aIndex, Vl.fMax1_eq, Vl.fSorted_eq, List.getElem?_cons_zero, List.getElem?_cons_succ, List.cons_append, List.nil_append, Vl.aPar, Vl.aIsO, Vl.dNeS, Vl.aDNew, Vl.dEqO, Vl.aDGet, Vl.aDIx, Vl.dInD, Vl.kidsW, Vl.keyO, Vl.keyF, Vl.keysF, Vl.getK_map, Vl.M.toDs, Vl.refM, Vl.bwM, Vl.owM, Vl.aMakeO, Vl.aSetX, Vl.aSetCX, Vl.aDropX, Vl.aRetX, Vl.aAsgGX, Vl.aIfX, Vl.xP, Vl.tP, Vl.aBX, Vl.aAndX, Vl.aOrX, Vl.aNotX, Vl.aBinX, Vl.aCallL, Vl.aMethL, Vl.alHere, Vl.alCons, Vl.setP, Vl.apV, Vl.apFld, Vl.apIx, Vl.apKey, Vl.aMutP, Vl.aFSet, Vl.aDPutP, Vl.kidW, Vl.putM, Vl.dctM, Vl.aLstO, Vl.aoCons, Vl.aoNil, Vl.aDisp, Vl.dispGo, Vl.iLstG, Vl.xMut, Vl.fLenD, Vl.one, Vl.mRemove, Vl.apW, Vl.allW_nil, Vl.allW_cons, Vl.anHere, Vl.anCons, Vl.aCallN, Vl.aCallF, Vl.clAlls, Vl.clAll, Vl.flatW, Vl.flatD, Vl.flatDs, Bool.and_true, Bool.true_and, Vl.aDNewM, Vl.fSortT_eq, Vl.fSortDT_eq, Vl.fMinD_eq, Vl.fMaxD_eq, Vl.aForX_eq, Vl.aCallK, Vl.aCallD, Vl.xSortPop, Vl.dEqS, Vl.aSlT, Vl.aClE, Vl.aLenSet, Vl.aMakeD])
namespace Vl
open PySem PySem.Spec PyProof.Rows L2
/-! ### words of a row -/
def sp : Str := Str.ofString " "
def cm : Str := Str.ofString ","
theorem sp_one : sp = ⟨#[32]⟩ := by decide +kernel
theorem cm_one : cm = ⟨#[44]⟩ := by decide +kernel
def parts (c : Str) (r : Str) : List Str := Txt.split r c
theorem strOk_all (x : Str) : PyData.strOk x = true ↔ ∀ c ∈ chs x, c < 0x110000 := by
  unfold PyData.strOk
  rw [← Array.all_toList, List.all_eq_true]
  exact ⟨fun h c hc => of_decide_eq_true (h c hc), fun h c hc => decide_eq_true (h c hc)⟩
theorem joinL_in {S p : List Nat} : ∀ {ps : List (List Nat)}, p ∈ ps → (∀ c ∈ p, c ∈ TL.joinL S ps) ∧ p.length ≤ (TL.joinL S ps).length
  | [], h => nomatch h
  | [q], h => by rw [List.mem_singleton.mp h]; exact ⟨fun c hc => hc, Nat.le_refl _⟩
  | q :: q2 :: r, h => by
    show (∀ c ∈ p, c ∈ q ++ (S ++ TL.joinL S (q2 :: r))) ∧ p.length ≤ (q ++ (S ++ TL.joinL S (q2 :: r))).length
    rcases List.mem_cons.mp h with z | z
    · rw [z]
      exact ⟨fun c hc => List.mem_append_left _ hc, by rw [List.length_append]; omega⟩
    · obtain ⟨a, b⟩ := joinL_in (S := S) z
      exact ⟨fun c hc => List.mem_append_right _ (List.mem_append_right _ (a c hc)), by rw [List.length_append, List.length_append]; omega⟩
theorem joinL_cnt {S : List Nat} (hS : 1 ≤ S.length) : ∀ {ps : List (List Nat)}, ps.length ≤ (TL.joinL S ps).length + 1
  | [] => Nat.zero_le _
  | [q] => by show 1 ≤ q.length + 1; omega
  | q :: q2 :: r => by
    have ih := joinL_cnt hS (ps := q2 :: r)
    show (q2 :: r).length + 1 ≤ (q ++ (S ++ TL.joinL S (q2 :: r))).length + 1
    rw [List.length_append, List.length_append]
    omega
theorem parts_join (c r : Str) : TL.joinL (chs c) ((parts c r).map chs) = chs r := by
  have h := PySem.StrLaws.join_split r c
  have e : TL.tl (Str.join c (Txt.split r c)) = TL.joinL (TL.tl c) ((Txt.split r c).map TL.tl) := TL.tl_join _ _
  rw [h] at e
  exact e.symm
theorem parts_ne {c : Str} (hc : Txt.split Str.empty c ≠ []) (r : Str) : parts c r ≠ [] := fun z => by
  have h := PySem.StrLaws.join_split r c
  have e := parts_join c r
  rw [z] at e
  have : chs r = [] := e.symm
  have hr : r = Str.empty := (empty_iff r).mpr this
  rw [hr] at z
  exact hc z
theorem sp_ne (r : Str) : parts sp r ≠ [] := parts_ne (by decide +kernel) r
theorem cm_ne (r : Str) : parts cm r ≠ [] := parts_ne (by decide +kernel) r
structure PartOk (r : Str) (p : Str) : Prop where
  sub : ∀ c ∈ chs p, c ∈ chs r
  len : p.length ≤ r.length
theorem part_ok {c r p : Str} (h : p ∈ parts c r) : PartOk r p := by
  obtain ⟨a, b⟩ := joinL_in (S := chs c) (List.mem_map.mpr ⟨p, h, rfl⟩)
  rw [parts_join] at a b
  exact ⟨a, by rw [chs_len, chs_len] at b; exact b⟩
theorem PartOk.str {r p : Str} (h : PartOk r p) (hr : PyData.strOk r = true) : PyData.strOk p = true := (strOk_all p).mpr fun c hc => (strOk_all r).mp hr c (h.sub c hc)
theorem parts_cnt {c : Str} (hc : 1 ≤ c.length) (r : Str) : (parts c r).length ≤ r.length + 1 := by
  have := joinL_cnt (S := chs c) (by rw [chs_len]; exact hc) (ps := (parts c r).map chs)
  rw [parts_join, List.length_map, chs_len] at this
  exact this
/-- the words behind the first, if the first is the wanted one and their number, too -/
def WordsOk (r f : Str) (m : Int) : Prop := (parts sp r).head? = some f ∧ ((parts sp r).length : Int) = m
def c__words : CtE := fun ws Q ex => ∃ (r f : Str) (m pl : Int), ws = [.cl (.str r), .cl (.str f), .cl (.int m), .cl (.int pl)] ∧ PyData.strOk r = true ∧ PyData.strOk f = true ∧ r.length ≤ 900 ∧ (WordsOk r f m → Q (.fr (.fl (((parts sp r).drop 1).map .str)))) ∧ (¬ WordsOk r f m → ex pl)
theorem l__words : ∀ ws P R, c__words ws P R → ws.length = 4 := by rintro ws P R ⟨r, f, m, pl, rfl, _⟩; rfl
theorem split_sp (r : Str) : Txt.split r (Str.ofString " ") = parts sp r := rfl
theorem split_cm (r : Str) : Txt.split r (Str.ofString ",") = parts cm r := rfl
/-- _words: slots 0=row 1=first 2=many 3=place 4=words -/
def a__words (ex : Int → Prop) : AS :=
  aSeq (aSetC 4 (aSplit (aV 0) (aCons (aC (.str " ")) (aNil)))) (aSeq (aIf (aOr (aB (aBin (dNe) (aBin dIx (aV 4) (aC (.int 0))) (aV 1))) (aB (aBin (dNe) (aCB fLen1 (aCons (aV 4) (aNil))) (aV 2)))) (aRaise ex (aV 3)) (aNext)) (aRet (aSl (aV 4) (aoS (aC (.int 1))) (aoN))))
theorem w__words : ∀ ws P R, c__words ws P R → a__words R { nx := fun _ => P (.cl .non), rt := fun w _ => P w } (startA 5 ws) := by
  rintro ws P R ⟨r, f, m, pl, rfl, hr, hf, hl, hy, hn⟩
  show a__words R _ [.im (.str r), .im (.str f), .im (.int m), .im (.int pl), .non]
  unfold a__words aRaise
  walk_at "vs"
  simp only [aSplit]
  walk_at "vs"
  rw [split_sp]
  obtain ⟨x, xs, hx⟩ := List.exists_cons_of_ne_nil (sp_ne r)
  have hxm : x ∈ parts sp r := by rw [hx]; exact List.mem_cons_self
  have okx := okD_str _ ((part_ok hxm).str hr)
  have e0 : ixD ((parts sp r).map D.str) 0 = some (.str x) := by rw [hx]; rfl
  rw [e0]
  simp only []
  refine ⟨rfl, by omega, okx, okD_str _ hf, ?_⟩
  by_cases h1 : x = f
  · refine ite_no (by rw [eqD_str, decide_eq_true h1]; exact fun z => nomatch z) ?_
    by_cases h2 : ((parts sp r).length : Int) = m
    · refine ite_no (by rw [decide_eq_true h2]; exact fun z => nomatch z) ?_
      have ec : cutD ((parts sp r).map D.str) (some 1) none = ((parts sp r).drop 1).map D.str := cut_dropF D.str _ 1
      rw [ec]
      exact hy ⟨by rw [hx]; exact congrArg some h1, h2⟩
    · exact ite_yes (by rw [decide_eq_false h2]; rfl) ⟨pl, rfl, hn fun z => h2 z.2⟩
  · exact ite_yes (by rw [eqD_str, decide_eq_false h1]; rfl) ⟨pl, rfl, hn fun z => h1 (by have := z.1; rw [hx] at this; exact Option.some.inj this)⟩
end Vl
set_option maxHeartbeats 2000000
local macro_rules | `(tactic| walk_at "vs") => `(tactic| simp only [Vl.aSeq, Vl.aFor_eq, Vl.aIf, Vl.aB, Vl.aBin, Vl.aUn, Vl.aV, Vl.slotW, Vl.gt_z, Vl.gt_s, Vl.aCB, Vl.aCall, Vl.aCons, Vl.aNil, Vl.argW, Vl.dLt_eq, Vl.dLe_eq, Vl.dGt_eq, Vl.dGe_eq, Vl.dI0, Vl.dI, Vl.dAdd, Vl.dSub_eq, Vl.dMul, Vl.dDiv_eq, Vl.dMod_eq, Vl.dPow_eq, Vl.dShl_eq, Vl.dNeg, Vl.dNot, Vl.dIsN, Vl.dNotN, Vl.dEq, Vl.dNe, Vl.dIn, Vl.dIx, Vl.fLen_lst, Vl.fLen_tup, Vl.fLen_ow, Vl.fLen_bw, Vl.fLen_scr, Vl.fLen_str, Vl.fInt_int, Vl.fInt_bl, Vl.fAbs_int, Vl.fMax_int, Vl.fMin_int, Vl.fGcd_int, Vl.fLcm_int, Vl.fList_lst, Vl.fList_tup, Vl.fList_ow, Vl.fList_bw, Vl.fList_scr, Vl.seqC, Vl.lstC, Vl.itemsC, Vl.clW, Vl.W.toD, Vl.M.toD, Vl.clDs, Option.map_some, Option.map_none,
  Vl.aRet, Vl.aRetV, Vl.aRetN, Vl.aNext, Vl.aBreak, Vl.aCont, Vl.aC, Vl.aSet, Vl.aSetC, Vl.slotA, Vl.aDrop, Vl.aAsgG, Vl.agN, Vl.agT, Vl.agCons, Vl.agNil, Vl.iLst, Vl.iTup, Vl.iR1, Vl.iR2, Vl.aTup, Vl.aLst, Vl.aAnd, Vl.aOr, Vl.aNot, Vl.aAndV, Vl.aOrV, Vl.aIfE, Vl.aSl, Vl.aoS, Vl.aoN, Vl.aChain, Vl.aAugAdd, Vl.aAugSub, Vl.aMut, Vl.aMutS, Vl.mAppend, Vl.mPop, Vl.mPopAt, Vl.mReverse, Vl.tyM, Vl.aFrz, Vl.frz, Vl.aSetIx, Vl.aLc, Vl.wipeA, Vl.aYes,
  List.set_cons_zero, List.set_cons_succ, List.length_map, List.length_cons, List.length_nil, decide_eq_true_eq, Bool.not_true, Bool.not_false, if_true, if_false, Bool.false_eq_true, Vl.okD_int, Vl.okD_bl, Vl.okD_non, Vl.eqD_int, Vl.eqD_bl, Vl.eqD_non, true_and, and_true, Vl.snoc_int, Vl.aIsi, Vl.isi_bl_bool, Vl.isi_bl_int, Vl.isi_int_int, Vl.isi_int_bool, Vl.isi_non_int, Vl.isi_non_bool, Vl.isi_lst_list, Vl.isi_tup_list, Vl.isi_tup_tuple, Vl.isi_non_tuple, Vl.isi_non_list, Vl.isi_str_str, Vl.isi_lst_bool, Vl.isi_str_bool, Vl.isi_tup_bool, Vl.ixD_0, Vl.ixD_1, Vl.ixD_2, Vl.ixD_3, Vl.ixD_4, Vl.ixD_5, Vl.ixD_6, Vl.ixD_7, Vl.ixD_8, Vl.ixD_9, Vl.ixD_10, Vl.ixD_11, Vl.aFld, Vl.aMeth, Vl.aMake, Vl.aMakeK, Vl.mInsert, Vl.aIndex, Vl.fMax1_eq, Vl.fSorted_eq, List.getElem?_cons_zero, List.getElem?_cons_succ, List.cons_append, List.nil_append, Vl.aPar, Vl.aIsO, Vl.dNeS, Vl.aDNew, Vl.dEqO, Vl.aDGet, Vl.aDIx, Vl.dInD, Vl.kidsW, Vl.keyO, Vl.keyF, Vl.keysF, Vl.getK_map, Vl.M.toDs, Vl.refM, Vl.bwM, Vl.owM, Vl.aMakeO, Vl.aSetX, Vl.aSetCX, Vl.aDropX, Vl.aRetX, Vl.aAsgGX, Vl.aIfX, Vl.xP, Vl.tP, Vl.aBX, Vl.aAndX, Vl.aOrX, Vl.aNotX, Vl.aBinX, Vl.aCallL, Vl.aMethL, Vl.alHere, Vl.alCons, Vl.setP, Vl.apV, Vl.apFld, Vl.apIx, Vl.apKey, Vl.aMutP, Vl.aFSet, Vl.aDPutP, Vl.kidW, Vl.putM, Vl.dctM, Vl.aLstO, Vl.aoCons, Vl.aoNil, Vl.aDisp, Vl.dispGo, Vl.iLstG, Vl.xMut, Vl.fLenD, Vl.one, Vl.mRemove, Vl.apW, Vl.allW_nil, Vl.allW_cons, Vl.anHere, Vl.anCons, Vl.aCallN, Vl.aCallF, Vl.clAlls, Vl.clAll, Vl.flatW, Vl.flatD, Vl.flatDs, Bool.and_true, Bool.true_and, Vl.aDNewM, Vl.fSortT_eq, Vl.fSortDT_eq, Vl.fMinD_eq, Vl.fMaxD_eq, Vl.aForX_eq, Vl.aCallK, Vl.aCallD, Vl.xSortPop, Vl.dEqS, Vl.aSlT, Vl.aClE, Vl.aLenSet, Vl.aMakeD])
namespace Vl
open PySem PySem.Spec PyProof.Rows L2
/-! ### rows of lines -/
structure RowS (r : Str) : Prop where
  ok : PyData.strOk r = true
  len : r.length ≤ 900
theorem RowS.part {r p c : Str} (h : RowS r) (hp : p ∈ parts c r) : RowS p := ⟨(part_ok hp).str h.ok, by have := (part_ok hp).len; have := h.len; omega⟩
def LineIs (n : Int) (ls : List Ln) (r : Str) (w : Ln) : Prop := ∃ f a b t, parts sp r = [f, a, b, t] ∧ NumOk a 0 (n - 1) ∧ NumOk b 0 (n - 1) ∧ NumOk t 0 20 ∧ wordV a ≠ wordV b ∧ joinL (wordV a) (wordV b) ls = none ∧ w = (wordV a, wordV b, wordV t)
def lineW : Str := Str.ofString "line"
def HeadIs (r f : Str) : Prop := (parts sp r).head? = some f
theorem four {r : Str} {xs : List Str} (h : parts sp r = xs) (hl : xs.length = 4) : ∃ f a b t, xs = [f, a, b, t] := match xs, hl with
  | [f, a, b, t], _ => ⟨f, a, b, t, rfl⟩
def c__read_line : CtE := fun ws Q ex => ∃ (N : NetV) (r : Str) (pl : Int), ws = [.cl (.str r), .cl (.ins 0 [.lst (N.ks.map kD), .lst (N.ls.map lnD), .int N.pr, .int N.er]), .cl (.int pl)] ∧ RowS r ∧ N.ks.length ≤ 100 ∧ (∀ w, HeadIs r lineW → LineIs N.ks.length N.ls r w → Q (.cl (lnD w))) ∧ ((∀ w, ¬ (HeadIs r lineW ∧ LineIs N.ks.length N.ls r w)) → ex pl)
theorem l__read_line : ∀ ws P R, c__read_line ws P R → ws.length = 3 := by rintro ws P R ⟨N, r, pl, rfl, _⟩; rfl
/-- _read_line: slots 0=row 1=net 2=place 3=words 4=a 5=b 6=delay -/
def a__read_line (ex : Int → Prop) : AS :=
  aSeq (aSetC 3 (aCallE ex c__words (aCons (aV 0) (aCons (aC (.str "line")) (aCons (aC (.int 4)) (aCons (aV 2) (aNil))))))) (aSeq (aSetC 4 (aCallE ex c__number (aCons (aBin dIx (aV 3) (aC (.int 0))) (aCons (aC (.int 0)) (aCons (aBin dSub (aCB fLen1 (aCons (aFld 0 0 (aV 1)) (aNil))) (aC (.int 1))) (aCons (aV 2) (aNil))))))) (aSeq (aSetC 5 (aCallE ex c__number (aCons (aBin dIx (aV 3) (aC (.int 1))) (aCons (aC (.int 0)) (aCons (aBin dSub (aCB fLen1 (aCons (aFld 0 0 (aV 1)) (aNil))) (aC (.int 1))) (aCons (aV 2) (aNil))))))) (aSeq (aSetC 6 (aCallE ex c__number (aCons (aBin dIx (aV 3) (aC (.int 2))) (aCons (aC (.int 0)) (aCons (aC (.int 20)) (aCons (aV 2) (aNil))))))) (aSeq (aIf (aOr (aB (aBin (dEq) (aV 4) (aV 5))) (aB (aBin (dNotN) (aMeth 0 c_Net_delay (aV 1) (aCons (aV 4) (aCons (aV 5) (aNil)))) (aC .non)))) (aRaise ex (aV 2)) (aNext)) (aRet (aTup (aCons (aV 4) (aCons (aV 5) (aCons (aV 6) (aNil))))))))))
theorem w__read_line : ∀ ws P R, c__read_line ws P R → a__read_line R { nx := fun _ => P (.cl .non), rt := fun w _ => P w } (startA 7 ws) := by
  rintro ws P R ⟨N, r, pl, rfl, hr, hn, hy, hno⟩
  show a__read_line R _ [.im (.str r), .im (.ins 0 [.lst (N.ks.map kD), .lst (N.ls.map lnD), .int N.pr, .int N.er]), .im (.int pl), .non, .non, .non, .non]
  unfold a__read_line aCallE aRaise
  walk_at "vs"
  refine ⟨r, lineW, 4, pl, rfl, hr.ok, by decide +kernel, hr.len, fun h => ?_, fun h => hno fun w ⟨q, f, a, b, t, e, _⟩ => h ⟨q, by rw [e]; rfl⟩⟩
  obtain ⟨h1, h2⟩ := h
  obtain ⟨f, a, b, t, e⟩ := four (r := r) rfl (by omega)
  have hf : f = lineW := by rw [e] at h1; exact Option.some.inj h1
  have ra : RowS a := hr.part (c := sp) (by rw [e]; simp)
  have rb : RowS b := hr.part (c := sp) (by rw [e]; simp)
  have rt : RowS t := hr.part (c := sp) (by rw [e]; simp)
  have uniq : ∀ {f' a' b' t'}, parts sp r = [f', a', b', t'] → f' = f ∧ a' = a ∧ b' = b ∧ t' = t := fun {f' a' b' t'} q => by
    rw [e] at q
    simp only [List.cons.injEq] at q
    exact ⟨q.1.symm, q.2.1.symm, q.2.2.1.symm, q.2.2.2.1.symm⟩
  have no : (NumOk a 0 ((N.ks.length : Int) - 1) → NumOk b 0 ((N.ks.length : Int) - 1) → NumOk t 0 20 → wordV a ≠ wordV b → joinL (wordV a) (wordV b) N.ls = none → False) → R pl := fun z => hno fun w ⟨_, f', a', b', t', q, q1, q2, q3, q4, q5, _⟩ => by
    obtain ⟨rfl, rfl, rfl, rfl⟩ := uniq q
    exact z q1 q2 q3 q4 q5
  rw [e]
  walk_at "vs"
  refine ⟨a, 0, _, pl, rfl, ra.ok, by have := ra.len; omega, fun na => ?_, fun na => no fun z _ _ _ _ => na z⟩
  refine ⟨b, 0, _, pl, rfl, rb.ok, by have := rb.len; omega, fun nb => ?_, fun nb => no fun _ z _ _ _ => nb z⟩
  refine ⟨t, 0, 20, pl, rfl, rt.ok, by have := rt.len; omega, fun nt => ?_, fun nt => no fun _ _ z _ _ => nt z⟩
  walk_at "vs"
  by_cases hab : wordV a = wordV b
  · exact ite_yes hab ⟨pl, rfl, no fun _ _ _ z _ => z hab⟩
  refine ite_no hab ⟨N, _, _, rfl, ?_⟩
  cases hj : joinN N (wordV a) (wordV b) with
  | none =>
    simp only [optI]
    exact ⟨by decide, hy (wordV a, wordV b, wordV t) (by unfold HeadIs; rw [e, hf]; rfl) ⟨f, a, b, t, e, na, nb, nt, hab, hj, rfl⟩⟩
  | some d =>
    simp only [optI]
    exact ⟨pl, rfl, no fun _ _ _ _ z => by rw [show joinL (wordV a) (wordV b) N.ls = some d from hj] at z; cases z⟩
def RdB (w : W) (ds : List D) : Prop := w = .bw (.fl ds) ∨ w = .ow (.fl ds)
def c__law_joined : Ct := fun ws Q => ∃ (wl : W) (ls : List Ln) (a b : Int), ws = [wl, .cl (.int a), .cl (.int b)] ∧ RdB wl (ls.map lnD) ∧ (joinL a b ls ≠ none → Q (.cl (.bl true))) ∧ (joinL a b ls = none → Q (.cl (.bl false)))
theorem l__law_joined : ∀ ws P, c__law_joined ws P → ws.length = 3 := by rintro ws P ⟨wl, ls, a, b, rfl, _⟩; rfl
/-- _law_joined: slots 0=_law_lines 1=_law_a 2=_law_b 3=_law_line_here -/
def a__law_joined : AS :=
  aSeq (aFor (iLst (aV 0)) (agN 3) (aIf (aOr (aAnd (aB (aBin (dEq) (aBin dIx (aV 3) (aC (.int 0))) (aV 1))) (aB (aBin (dEq) (aBin dIx (aV 3) (aC (.int 1))) (aV 2)))) (aAnd (aB (aBin (dEq) (aBin dIx (aV 3) (aC (.int 0))) (aV 2))) (aB (aBin (dEq) (aBin dIx (aV 3) (aC (.int 1))) (aV 1))))) (aRet (aC (.bl true))) (aNext))) (aRet (aC (.bl false)))
theorem w__law_joined : ∀ ws P, c__law_joined ws P → a__law_joined { nx := fun _ => P (.cl .non), rt := fun w _ => P w } (startA 4 ws) := by
  rintro ws P ⟨wl, ls, a, b, rfl, hw, hy, hn⟩
  have : startA 4 [wl, .cl (.int a), .cl (.int b)] = [.bw (.fl (ls.map lnD)), .im (.int a), .im (.int b), .non] := by rcases hw with rfl | rfl <;> rfl
  rw [this]
  unfold a__law_joined
  walk_at "vs"
  refine for_map lnD ls (fun r δ => (∃ x, δ = [.bw (.fl (ls.map lnD)), .im (.int a), .im (.int b), x]) ∧ joinL a b ls = joinL a b r) ⟨⟨_, rfl⟩, rfl⟩ ?_ ?_
  · rintro ⟨p, q, t⟩ r δ _ ⟨⟨x, rfl⟩, hf⟩
    rw [show lnD (p, q, t) = .tup [.int p, .int q, .int t] from rfl]
    have e1 : joinL a b ((p, q, t) :: r) = if (p = a ∧ q = b) ∨ (p = b ∧ q = a) then some t else joinL a b r := rfl
    rw [e1] at hf
    walk_at "vs"
    have yes : ((p = a ∧ q = b) ∨ (p = b ∧ q = a)) → P (.cl (.bl true)) := fun z => by
      rw [if_pos z] at hf
      exact hy (by rw [hf]; exact fun z => nomatch z)
    have nx : ¬((p = a ∧ q = b) ∨ (p = b ∧ q = a)) → joinL a b ls = joinL a b r := fun z => by
      rw [if_neg z] at hf
      exact hf
    repeat' split
    all_goals first
      | exact yes (.inl ⟨by assumption, by assumption⟩)
      | exact yes (.inr ⟨by assumption, by assumption⟩)
      | exact ⟨⟨_, rfl⟩, nx (by rintro (⟨z1, z2⟩ | ⟨z1, z2⟩) <;> simp_all)⟩
  · rintro δ ⟨⟨x, rfl⟩, hf⟩
    walk_at "vs"
    exact hn hf
def c__law_line : Ct := fun ws Q => ∃ (wk wl : W) (ks : List Bool) (ls : List Ln) (r : Str), ws = [.cl (.str r), wk, wl] ∧ RdB wk (ks.map kD) ∧ RdB wl (ls.map lnD) ∧ RowS r ∧ ks.length ≤ 100 ∧ (∀ w, LineIs ks.length ls r w → Q (.cl (lnD w))) ∧ ((∀ w, ¬ LineIs ks.length ls r w) → Q (.cl .non))
theorem l__law_line : ∀ ws P, c__law_line ws P → ws.length = 3 := by rintro ws P ⟨wk, wl, ks, ls, r, rfl, _⟩; rfl
/-- _law_line: slots 0=_law_row 1=_law_kinds 2=_law_lines 3=_law_words 4=_law_a 5=_law_b 6=_law_ticks -/
def a__law_line : AS :=
  aSeq (aSetC 3 (aSplit (aV 0) (aCons (aC (.str " ")) (aNil)))) (aSeq (aIf (aB (aBin (dNe) (aCB fLen1 (aCons (aV 3) (aNil))) (aC (.int 4)))) (aRet (aC .non)) (aNext)) (aSeq (aSetC 4 (aCall c__law_number (aCons (aBin dIx (aV 3) (aC (.int 1))) (aCons (aC (.int 0)) (aCons (aBin dSub (aCB fLen1 (aCons (aV 1) (aNil))) (aC (.int 1))) (aNil)))))) (aSeq (aSetC 5 (aCall c__law_number (aCons (aBin dIx (aV 3) (aC (.int 2))) (aCons (aC (.int 0)) (aCons (aBin dSub (aCB fLen1 (aCons (aV 1) (aNil))) (aC (.int 1))) (aNil)))))) (aSeq (aSetC 6 (aCall c__law_number (aCons (aBin dIx (aV 3) (aC (.int 3))) (aCons (aC (.int 0)) (aCons (aC (.int 20)) (aNil)))))) (aSeq (aIf (aOr (aB (aBin (dIsN) (aV 4) (aC .non))) (aOr (aB (aBin (dIsN) (aV 5) (aC .non))) (aOr (aB (aBin (dIsN) (aV 6) (aC .non))) (aOr (aB (aBin (dEq) (aV 4) (aV 5))) (aB (aCall c__law_joined (aCons (aV 2) (aCons (aV 4) (aCons (aV 5) (aNil)))))))))) (aRet (aC .non)) (aNext)) (aRet (aTup (aCons (aV 4) (aCons (aV 5) (aCons (aV 6) (aNil)))))))))))
theorem w__law_line : ∀ ws P, c__law_line ws P → a__law_line { nx := fun _ => P (.cl .non), rt := fun w _ => P w } (startA 7 ws) := by
  rintro ws P ⟨wk, wl, ks, ls, r, rfl, hk, hl, hr, hn, hy, hno⟩
  have : startA 7 [.cl (.str r), wk, wl] = [.im (.str r), .bw (.fl (ks.map kD)), .bw (.fl (ls.map lnD)), .non, .non, .non, .non] := by rcases hk with rfl | rfl <;> rcases hl with rfl | rfl <;> rfl
  rw [this]
  unfold a__law_line
  walk_at "vs"
  simp only [aSplit]
  walk_at "vs"
  rw [split_sp]
  have rl := hr.len
  refine ⟨rfl, by omega, ?_⟩
  by_cases h4 : ((parts sp r).length : Int) = 4
  · refine ite_no (by rw [decide_eq_true h4]; exact fun z => nomatch z) ?_
    obtain ⟨f, a, b, t, e⟩ := four (r := r) rfl (by omega)
    have ra : RowS a := hr.part (c := sp) (by rw [e]; simp)
    have rb : RowS b := hr.part (c := sp) (by rw [e]; simp)
    have rt : RowS t := hr.part (c := sp) (by rw [e]; simp)
    have no : (NumOk a 0 ((ks.length : Int) - 1) → NumOk b 0 ((ks.length : Int) - 1) → NumOk t 0 20 → wordV a ≠ wordV b → joinL (wordV a) (wordV b) ls = none → False) → P (.cl .non) := fun z => hno fun w ⟨f', a', b', t', q, q1, q2, q3, q4, q5, _⟩ => by
      rw [e] at q
      simp only [List.cons.injEq] at q
      obtain ⟨_, rfl, rfl, rfl, _⟩ := q
      exact z q1 q2 q3 q4 q5
    rw [e]
    simp only [List.map_cons, List.map_nil]
    rw [show ixD [D.str f, D.str a, D.str b, D.str t] 1 = some (.str a) from rfl, show ixD [D.str f, D.str a, D.str b, D.str t] 2 = some (.str b) from rfl, show ixD [D.str f, D.str a, D.str b, D.str t] 3 = some (.str t) from rfl]
    have la := ra.len
    have lb := rb.len
    have lt := rt.len
    refine ⟨a, 0, _, rfl, ra.ok, by omega, fun na => ?_, fun na => ?_⟩
    all_goals refine ⟨b, 0, _, rfl, rb.ok, by omega, fun nb => ?_, fun nb => ?_⟩
    all_goals refine ⟨t, 0, 20, rfl, rt.ok, by omega, fun nt => ?_, fun nt => ?_⟩
    all_goals try first
      | exact no fun z _ _ _ _ => na z
      | exact no fun _ z _ _ _ => nb z
      | exact no fun _ _ z _ _ => nt z
    walk_at "vs"
    by_cases hab : wordV a = wordV b
    · exact ite_yes hab (no fun _ _ _ z _ => z hab)
    · exact ite_no hab ⟨_, ls, _, _, rfl, .inl rfl, fun hj => ite_yes rfl (no fun _ _ _ _ z => hj z), fun hj => ite_no (fun z => nomatch z) ⟨by decide, hy (wordV a, wordV b, wordV t) ⟨f, a, b, t, e, na, nb, nt, hab, hj, rfl⟩⟩⟩
  · exact ite_yes (by rw [decide_eq_false h4]; rfl) (hno fun w ⟨f, a, b, t, q, _⟩ => h4 (by rw [q]; rfl))
end Vl
set_option maxHeartbeats 2000000
local macro_rules | `(tactic| walk_at "vs") => `(tactic| simp only [Vl.aSeq, Vl.aFor_eq, Vl.aIf, Vl.aB, Vl.aBin, Vl.aUn, Vl.aV, Vl.slotW, Vl.gt_z, Vl.gt_s, Vl.aCB, Vl.aCall, Vl.aCons, Vl.aNil, Vl.argW, Vl.dLt_eq, Vl.dLe_eq, Vl.dGt_eq, Vl.dGe_eq, Vl.dI0, Vl.dI, Vl.dAdd, Vl.dSub_eq, Vl.dMul, Vl.dDiv_eq, Vl.dMod_eq, Vl.dPow_eq, Vl.dShl_eq, Vl.dNeg, Vl.dNot, Vl.dIsN, Vl.dNotN, Vl.dEq, Vl.dNe, Vl.dIn, Vl.dIx, Vl.fLen_lst, Vl.fLen_tup, Vl.fLen_ow, Vl.fLen_bw, Vl.fLen_scr, Vl.fLen_str, Vl.fInt_int, Vl.fInt_bl, Vl.fAbs_int, Vl.fMax_int, Vl.fMin_int, Vl.fGcd_int, Vl.fLcm_int, Vl.fList_lst, Vl.fList_tup, Vl.fList_ow, Vl.fList_bw, Vl.fList_scr, Vl.seqC, Vl.lstC, Vl.itemsC, Vl.clW, Vl.W.toD, Vl.M.toD, Vl.clDs, Option.map_some, Option.map_none,
  Vl.aRet, Vl.aRetV, Vl.aRetN, Vl.aNext, Vl.aBreak, Vl.aCont, Vl.aC, Vl.aSet, Vl.aSetC, Vl.slotA, Vl.aDrop, Vl.aAsgG, Vl.agN, Vl.agT, Vl.agCons, Vl.agNil, Vl.iLst, Vl.iTup, Vl.iR1, Vl.iR2, Vl.aTup, Vl.aLst, Vl.aAnd, Vl.aOr, Vl.aNot, Vl.aAndV, Vl.aOrV, Vl.aIfE, Vl.aSl, Vl.aoS, Vl.aoN, Vl.aChain, Vl.aAugAdd, Vl.aAugSub, Vl.aMut, Vl.aMutS, Vl.mAppend, Vl.mPop, Vl.mPopAt, Vl.mReverse, Vl.tyM, Vl.aFrz, Vl.frz, Vl.aSetIx, Vl.aLc, Vl.wipeA, Vl.aYes,
  List.set_cons_zero, List.set_cons_succ, List.length_map, List.length_cons, List.length_nil, decide_eq_true_eq, Bool.not_true, Bool.not_false, if_true, if_false, Bool.false_eq_true, Vl.okD_int, Vl.okD_bl, Vl.okD_non, Vl.eqD_int, Vl.eqD_bl, Vl.eqD_non, true_and, and_true, Vl.snoc_int, Vl.aIsi, Vl.isi_bl_bool, Vl.isi_bl_int, Vl.isi_int_int, Vl.isi_int_bool, Vl.isi_non_int, Vl.isi_non_bool, Vl.isi_lst_list, Vl.isi_tup_list, Vl.isi_tup_tuple, Vl.isi_non_tuple, Vl.isi_non_list, Vl.isi_str_str, Vl.isi_lst_bool, Vl.isi_str_bool, Vl.isi_tup_bool, Vl.ixD_0, Vl.ixD_1, Vl.ixD_2, Vl.ixD_3, Vl.ixD_4, Vl.ixD_5, Vl.ixD_6, Vl.ixD_7, Vl.ixD_8, Vl.ixD_9, Vl.ixD_10, Vl.ixD_11, Vl.aFld, Vl.aMeth, Vl.aMake, Vl.aMakeK, Vl.mInsert, Vl.aIndex, Vl.fMax1_eq, Vl.fSorted_eq, List.getElem?_cons_zero, List.getElem?_cons_succ, List.cons_append, List.nil_append, Vl.aPar, Vl.aIsO, Vl.dNeS, Vl.aDNew, Vl.dEqO, Vl.aDGet, Vl.aDIx, Vl.dInD, Vl.kidsW, Vl.keyO, Vl.keyF, Vl.keysF, Vl.getK_map, Vl.M.toDs, Vl.refM, Vl.bwM, Vl.owM, Vl.aMakeO, Vl.aSetX, Vl.aSetCX, Vl.aDropX, Vl.aRetX, Vl.aAsgGX, Vl.aIfX, Vl.xP, Vl.tP, Vl.aBX, Vl.aAndX, Vl.aOrX, Vl.aNotX, Vl.aBinX, Vl.aCallL, Vl.aMethL, Vl.alHere, Vl.alCons, Vl.setP, Vl.apV, Vl.apFld, Vl.apIx, Vl.apKey, Vl.aMutP, Vl.aFSet, Vl.aDPutP, Vl.kidW, Vl.putM, Vl.dctM, Vl.aLstO, Vl.aoCons, Vl.aoNil, Vl.aDisp, Vl.dispGo, Vl.iLstG, Vl.xMut, Vl.fLenD, Vl.one, Vl.mRemove, Vl.apW, Vl.allW_nil, Vl.allW_cons, Vl.anHere, Vl.anCons, Vl.aCallN, Vl.aCallF, Vl.clAlls, Vl.clAll, Vl.flatW, Vl.flatD, Vl.flatDs, Bool.and_true, Bool.true_and, Vl.aDNewM, Vl.fSortT_eq, Vl.fSortDT_eq, Vl.fMinD_eq, Vl.fMaxD_eq, Vl.aForX_eq, Vl.aCallK, Vl.aCallD, Vl.xSortPop, Vl.dEqS, Vl.aSlT, Vl.aClE, Vl.aLenSet, Vl.aMakeD])
namespace Vl
open PySem PySem.Spec PyProof.Rows L2
/-- a comprehension over words that may end the def -/
theorem lc_or {α : Type} {g : AG} {e : AE} {δ : List AV} {Q : W → Prop} (enc : α → D) (f : α → D) (ok : α → Prop) : ∀ (xs : List α) (acc : List D), acc.length + xs.length ≤ 1000000 →
    (∀ x ∈ xs, ∀ K : W → Prop, (ok x → K (.cl (f x))) → g (enc x) δ fun δ2 => e δ2 (fun w => K (argW w))) → ((∀ x ∈ xs, ok x) → Q (.fr (.fl (acc ++ xs.map f)))) → lcGo g aYes e δ (xs.map enc) acc Q
  | [], acc, _, _, q => by
    have := q fun x hx => nomatch hx
    simpa [lcGo] using this
  | x :: xs, acc, hl, h, q => by
    have hl' : acc.length + (xs.length + 1) ≤ 1000000 := by simpa using hl
    show lcGo g aYes e δ (enc x :: xs.map enc) acc Q
    unfold lcGo
    simp only [aYes, if_true]
    refine h x List.mem_cons_self (fun w => match w with
      | .cl y => acc.length < 1000000 ∧ lcGo g aYes e δ (xs.map enc) (acc ++ [y]) Q
      | _ => False) fun hx => ⟨by omega, lc_or enc f ok xs (acc ++ [f x]) (by rw [List.length_append, List.length_singleton]; omega) (fun y hy => h y (List.mem_cons_of_mem _ hy)) fun hall => ?_⟩
    have := q fun y hy => (List.mem_cons.mp hy).elim (fun z => z ▸ hx) (hall y)
    simpa using this
/-! ### rows of streams -/
structure StmIs (N : NetV) (r : Str) (e : EntV) : Prop where
  ex : ∃ f p l d ps os, parts sp r = [f, p, l, d, ps, os] ∧ f = Str.ofString "stream" ∧ NumOk p 1 60 ∧ NumOk l 1 (wordV p) ∧ NumOk d 1 300 ∧ (∀ x ∈ parts cm ps, NumOk x 0 ((N.ks.length : Int) - 1)) ∧ (∀ x ∈ parts cm os, NumOk x 0 500) ∧ PathP N ((parts cm ps).map wordV) ∧ (parts cm os).length + 1 = (parts cm ps).length ∧
    e = ⟨⟨wordV p, wordV l, wordV d, (parts cm ps).map wordV⟩, (parts cm os).map wordV⟩
theorem six {xs : List Str} (hl : xs.length = 6) : ∃ f p l d ps os, xs = [f, p, l, d, ps, os] := match xs, hl with
  | [f, p, l, d, ps, os], _ => ⟨f, p, l, d, ps, os, rfl⟩
def c__read_stream : CtE := fun ws Q ex => ∃ (N : NetV) (r : Str) (pl : Int), ws = [.cl (.str r), .cl (.ins 0 [.lst (N.ks.map kD), .lst (N.ls.map lnD), .int N.pr, .int N.er]), .cl (.int pl)] ∧ RowS r ∧ N.ks.length ≤ 100 ∧ (∀ e, StmIs N r e → Q (.cl (entD e))) ∧ ((∀ e, ¬ StmIs N r e) → ex pl)
theorem l__read_stream : ∀ ws P R, c__read_stream ws P R → ws.length = 3 := by rintro ws P R ⟨N, r, pl, rfl, _⟩; rfl
/-- _read_stream: slots 0=row 1=net 2=place 3=words 4=period 5=length 6=deadline 7=path 8=word 9=offsets -/
def a__read_stream (ex : Int → Prop) : AS :=
  aSeq (aSetC 3 (aCallE ex c__words (aCons (aV 0) (aCons (aC (.str "stream")) (aCons (aC (.int 6)) (aCons (aV 2) (aNil))))))) (aSeq (aSetC 4 (aCallE ex c__number (aCons (aBin dIx (aV 3) (aC (.int 0))) (aCons (aC (.int 1)) (aCons (aC (.int 60)) (aCons (aV 2) (aNil))))))) (aSeq (aSetC 5 (aCallE ex c__number (aCons (aBin dIx (aV 3) (aC (.int 1))) (aCons (aC (.int 1)) (aCons (aV 4) (aCons (aV 2) (aNil))))))) (aSeq (aSetC 6 (aCallE ex c__number (aCons (aBin dIx (aV 3) (aC (.int 2))) (aCons (aC (.int 1)) (aCons (aC (.int 300)) (aCons (aV 2) (aNil))))))) (aSeq (aSetC 7 (aLc (iLstG (aSplit (aBin dIx (aV 3) (aC (.int 3))) (aCons (aC (.str ",")) (aNil)))) (agN 8) (aYes) (aCallE ex c__number (aCons (aV 8) (aCons (aC (.int 0)) (aCons (aBin dSub (aCB fLen1 (aCons (aFld 0 0 (aV 1)) (aNil))) (aC (.int 1))) (aCons (aV 2) (aNil)))))) [8])) (aSeq (aSetC 9 (aLc (iLstG (aSplit (aBin dIx (aV 3) (aC (.int 4))) (aCons (aC (.str ",")) (aNil)))) (agN 8) (aYes) (aCallE ex c__number (aCons (aV 8) (aCons (aC (.int 0)) (aCons (aC (.int 500)) (aCons (aV 2) (aNil)))))) [8])) (aSeq (aIf (aOr (aNot (aB (aCall c_is_path (aCons (aV 1) (aCons (aV 7) (aNil)))))) (aB (aBin (dNe) (aCB fLen1 (aCons (aV 9) (aNil))) (aCB fLen1 (aCons (aCall c_ports_of (aCons (aV 7) (aNil))) (aNil)))))) (aRaise ex (aV 2)) (aNext)) (aRet (aTup (aCons (aMake 1 c_Stream___init__ (aCons (aV 4) (aCons (aV 5) (aCons (aV 6) (aCons (aV 7) (aNil)))))) (aCons (aV 9) (aNil)))))))))))
theorem w__read_stream : ∀ ws P R, c__read_stream ws P R → a__read_stream R { nx := fun _ => P (.cl .non), rt := fun w _ => P w } (startA 10 ws) := by
  rintro ws P R ⟨N, r, pl, rfl, hr, hn, hy, hno⟩
  show a__read_stream R _ [.im (.str r), .im (.ins 0 [.lst (N.ks.map kD), .lst (N.ls.map lnD), .int N.pr, .int N.er]), .im (.int pl), .non, .non, .non, .non, .non, .non, .non]
  unfold a__read_stream aCallE aRaise
  walk_at "vs"
  refine ⟨r, Str.ofString "stream", 6, pl, rfl, hr.ok, by decide +kernel, hr.len, fun h => ?_, fun h => hno fun w ⟨f, p, l, d, ps, os, e, hf, _⟩ => h ⟨by rw [e, hf]; rfl, by rw [e]; rfl⟩⟩
  obtain ⟨h1, h2⟩ := h
  obtain ⟨f, p, l, d, ps, os, e⟩ := six (xs := parts sp r) (by omega)
  have hf : f = Str.ofString "stream" := by rw [e] at h1; exact Option.some.inj h1
  have rp : RowS p := hr.part (c := sp) (by rw [e]; simp)
  have rl : RowS l := hr.part (c := sp) (by rw [e]; simp)
  have rd : RowS d := hr.part (c := sp) (by rw [e]; simp)
  have rps : RowS ps := hr.part (c := sp) (by rw [e]; simp)
  have ros : RowS os := hr.part (c := sp) (by rw [e]; simp)
  have no : (NumOk p 1 60 → NumOk l 1 (wordV p) → NumOk d 1 300 → (∀ x ∈ parts cm ps, NumOk x 0 ((N.ks.length : Int) - 1)) → (∀ x ∈ parts cm os, NumOk x 0 500) → PathP N ((parts cm ps).map wordV) → (parts cm os).length + 1 = (parts cm ps).length → False) → R pl := fun z => hno fun w ⟨_, p', l', d', ps', os', q, _, q1, q2, q3, q4, q5, q6, q7, _⟩ => by
    rw [e] at q
    simp only [List.cons.injEq] at q
    obtain ⟨_, rfl, rfl, rfl, rfl, rfl, _⟩ := q
    exact z q1 q2 q3 q4 q5 q6 q7
  rw [e]
  have lp := rp.len
  have ll := rl.len
  have ld := rd.len
  walk_at "vs"
  refine ⟨p, 1, 60, pl, rfl, rp.ok, by omega, fun np => ?_, fun np => no fun z _ _ _ _ _ _ => np z⟩
  refine ⟨l, 1, _, pl, rfl, rl.ok, by omega, fun nl => ?_, fun nl => no fun _ z _ _ _ _ _ => nl z⟩
  refine ⟨d, 1, 300, pl, rfl, rd.ok, by omega, fun nd => ?_, fun nd => no fun _ _ z _ _ _ _ => nd z⟩
  simp only [aSplit]
  walk_at "vs"
  rw [show ixD (List.map D.str (List.drop 1 [f, p, l, d, ps, os])) 3 = some (.str ps) from rfl, show ixD (List.map D.str (List.drop 1 [f, p, l, d, ps, os])) 4 = some (.str os) from rfl]
  simp only []
  rw [split_cm]
  have lps := rps.len
  have los := ros.len
  have c1 := parts_cnt (c := cm) (by decide +kernel) ps
  have c2 := parts_cnt (c := cm) (by decide +kernel) os
  refine ⟨rfl, by omega, lc_or D.str (fun w => D.int (wordV w)) (fun w => NumOk w 0 ((N.ks.length : Int) - 1)) (parts cm ps) [] (by simp; omega) (fun w hw K hK => ?_) fun hps => ?_⟩
  · have rw' := rps.part (c := cm) hw
    walk_at "vs"
    exact ⟨w, 0, _, pl, rfl, rw'.ok, by have := rw'.len; omega, fun nw => hK nw, fun nw => no fun _ _ _ z _ _ _ => nw (z w hw)⟩
  walk_at "vs"
  rw [split_cm]
  refine ⟨rfl, by omega, lc_or D.str (fun w => D.int (wordV w)) (fun w => NumOk w 0 500) (parts cm os) [] (by simp; omega) (fun w hw K hK => ?_) fun hos => ?_⟩
  · have rw' := ros.part (c := cm) hw
    walk_at "vs"
    exact ⟨w, 0, 500, pl, rfl, rw'.ok, by have := rw'.len; omega, fun nw => hK nw, fun nw => no fun _ _ _ _ z _ _ => nw (z w hw)⟩
  walk_at "vs"
  have m1 : (parts cm ps).map (fun w => D.int (wordV w)) = ((parts cm ps).map wordV).map .int := by rw [List.map_map]; rfl
  have m2 : (parts cm os).map (fun w => D.int (wordV w)) = ((parts cm os).map wordV).map .int := by rw [List.map_map]; rfl
  rw [m1, m2]
  have hpos : 1 ≤ (parts cm ps).length := List.length_pos_iff.mpr (cm_ne ps)
  have hinn : ∀ x ∈ (parts cm ps).map wordV, 0 ≤ x ∧ x < (N.ks.length : Int) := fun x hx => by
    obtain ⟨w, hw, rfl⟩ := List.mem_map.mp hx
    obtain ⟨_, h0, h1⟩ := hps w hw
    exact ⟨h0, by omega⟩
  refine ⟨N, (parts cm ps).map wordV, rfl, hinn, by rw [List.length_map]; omega, fun b hb => ?_⟩
  cases b with
  | false => exact ⟨pl, rfl, no fun _ _ _ _ _ z _ => nomatch hb.mpr z⟩
  | true =>
    have hP := hb.mp rfl
    refine ite_no (fun z => nomatch z) ⟨(parts cm ps).map wordV, rfl, by rw [List.length_map]; omega, ?_⟩
    have e2 := portsL_len ((parts cm ps).map wordV)
    rw [List.length_map] at e2
    simp only [fLen1]
    walk_at "vs"
    by_cases hc : ((parts cm os).length : Int) = ((portsL ((parts cm ps).map wordV)).length : Int)
    · have hc' : (parts cm os).length + 1 = (parts cm ps).length := by omega
      exact ite_no (by rw [decide_eq_true hc]; exact fun z => nomatch z) ⟨_, _, _, _, _, rfl, .inl rfl, by decide, hy _ ⟨f, p, l, d, ps, os, e, hf, np, nl, nd, hps, hos, hP, hc', rfl⟩⟩
    · exact ite_yes (by rw [decide_eq_false hc]; rfl) ⟨pl, rfl, no fun _ _ _ _ _ _ z => hc (by omega)⟩
end Vl
set_option maxHeartbeats 2000000
local macro_rules | `(tactic| walk_at "vs") => `(tactic| simp only [Vl.aSeq, Vl.aFor_eq, Vl.aIf, Vl.aB, Vl.aBin, Vl.aUn, Vl.aV, Vl.slotW, Vl.gt_z, Vl.gt_s, Vl.aCB, Vl.aCall, Vl.aCons, Vl.aNil, Vl.argW, Vl.dLt_eq, Vl.dLe_eq, Vl.dGt_eq, Vl.dGe_eq, Vl.dI0, Vl.dI, Vl.dAdd, Vl.dSub_eq, Vl.dMul, Vl.dDiv_eq, Vl.dMod_eq, Vl.dPow_eq, Vl.dShl_eq, Vl.dNeg, Vl.dNot, Vl.dIsN, Vl.dNotN, Vl.dEq, Vl.dNe, Vl.dIn, Vl.dIx, Vl.fLen_lst, Vl.fLen_tup, Vl.fLen_ow, Vl.fLen_bw, Vl.fLen_scr, Vl.fLen_str, Vl.fInt_int, Vl.fInt_bl, Vl.fAbs_int, Vl.fMax_int, Vl.fMin_int, Vl.fGcd_int, Vl.fLcm_int, Vl.fList_lst, Vl.fList_tup, Vl.fList_ow, Vl.fList_bw, Vl.fList_scr, Vl.seqC, Vl.lstC, Vl.itemsC, Vl.clW, Vl.W.toD, Vl.M.toD, Vl.clDs, Option.map_some, Option.map_none,
  Vl.aRet, Vl.aRetV, Vl.aRetN, Vl.aNext, Vl.aBreak, Vl.aCont, Vl.aC, Vl.aSet, Vl.aSetC, Vl.slotA, Vl.aDrop, Vl.aAsgG, Vl.agN, Vl.agT, Vl.agCons, Vl.agNil, Vl.iLst, Vl.iTup, Vl.iR1, Vl.iR2, Vl.aTup, Vl.aLst, Vl.aAnd, Vl.aOr, Vl.aNot, Vl.aAndV, Vl.aOrV, Vl.aIfE, Vl.aSl, Vl.aoS, Vl.aoN, Vl.aChain, Vl.aAugAdd, Vl.aAugSub, Vl.aMut, Vl.aMutS, Vl.mAppend, Vl.mPop, Vl.mPopAt, Vl.mReverse, Vl.tyM, Vl.aFrz, Vl.frz, Vl.aSetIx, Vl.aLc, Vl.wipeA, Vl.aYes,
  List.set_cons_zero, List.set_cons_succ, List.length_map, List.length_cons, List.length_nil, decide_eq_true_eq, Bool.not_true, Bool.not_false, if_true, if_false, Bool.false_eq_true, Vl.okD_int, Vl.okD_bl, Vl.okD_non, Vl.eqD_int, Vl.eqD_bl, Vl.eqD_non, true_and, and_true, Vl.snoc_int, Vl.aIsi, Vl.isi_bl_bool, Vl.isi_bl_int, Vl.isi_int_int, Vl.isi_int_bool, Vl.isi_non_int, Vl.isi_non_bool, Vl.isi_lst_list, Vl.isi_tup_list, Vl.isi_tup_tuple, Vl.isi_non_tuple, Vl.isi_non_list, Vl.isi_str_str, Vl.isi_lst_bool, Vl.isi_str_bool, Vl.isi_tup_bool, Vl.ixD_0, Vl.ixD_1, Vl.ixD_2, Vl.ixD_3, Vl.ixD_4, Vl.ixD_5, Vl.ixD_6, Vl.ixD_7, Vl.ixD_8, Vl.ixD_9, Vl.ixD_10, Vl.ixD_11, Vl.aFld, Vl.aMeth, Vl.aMake, Vl.aMakeK, Vl.mInsert, Vl.aIndex, Vl.fMax1_eq, Vl.fSorted_eq, List.getElem?_cons_zero, List.getElem?_cons_succ, List.cons_append, List.nil_append, Vl.aPar, Vl.aIsO, Vl.dNeS, Vl.aDNew, Vl.dEqO, Vl.aDGet, Vl.aDIx, Vl.dInD, Vl.kidsW, Vl.keyO, Vl.keyF, Vl.keysF, Vl.getK_map, Vl.M.toDs, Vl.refM, Vl.bwM, Vl.owM, Vl.aMakeO, Vl.aSetX, Vl.aSetCX, Vl.aDropX, Vl.aRetX, Vl.aAsgGX, Vl.aIfX, Vl.xP, Vl.tP, Vl.aBX, Vl.aAndX, Vl.aOrX, Vl.aNotX, Vl.aBinX, Vl.aCallL, Vl.aMethL, Vl.alHere, Vl.alCons, Vl.setP, Vl.apV, Vl.apFld, Vl.apIx, Vl.apKey, Vl.aMutP, Vl.aFSet, Vl.aDPutP, Vl.kidW, Vl.putM, Vl.dctM, Vl.aLstO, Vl.aoCons, Vl.aoNil, Vl.aDisp, Vl.dispGo, Vl.iLstG, Vl.xMut, Vl.fLenD, Vl.one, Vl.mRemove, Vl.apW, Vl.allW_nil, Vl.allW_cons, Vl.anHere, Vl.anCons, Vl.aCallN, Vl.aCallF, Vl.clAlls, Vl.clAll, Vl.flatW, Vl.flatD, Vl.flatDs, Bool.and_true, Bool.true_and, Vl.aDNewM, Vl.fSortT_eq, Vl.fSortDT_eq, Vl.fMinD_eq, Vl.fMaxD_eq, Vl.aForX_eq, Vl.aCallK, Vl.aCallD, Vl.xSortPop, Vl.dEqS, Vl.aSlT, Vl.aClE, Vl.aLenSet, Vl.aMakeD])
namespace Vl
open PySem PySem.Spec PyProof.Rows L2
/-! ### what a text says, row by row -/
def kOf (r : Str) : Option Bool := if r = Str.ofString "host" then some true else if r = Str.ofString "switch" then some false else none
theorem kOf_D {r : Str} {b : Bool} (h : kOf r = some b) : D.str r = kD b := by
  unfold kOf at h
  split at h
  · rename_i e
    cases h
    rw [e]; rfl
  · split at h
    · rename_i e
      cases h
      rw [e]; rfl
    · cases h
def kpre : List Str → List Bool
  | [] => []
  | r :: rs => match kOf r with
    | some b => b :: kpre rs
    | none => []
theorem kpre_len : ∀ rs, (kpre rs).length ≤ rs.length
  | [] => Nat.le_refl _
  | r :: rs => by
    rw [kpre]
    have := kpre_len rs
    split
    · simp; omega
    · simp
theorem kpre_at : ∀ {rs : List Str} {k : Nat}, k < (kpre rs).length → ∃ r, rs[k]? = some r ∧ kOf r = some ((kpre rs).getD k false)
  | [], _, h => absurd h (by simp [kpre])
  | r :: rs, k, h => by
    cases e : kOf r with
    | none => rw [kpre, e] at h; exact absurd h (by simp)
    | some b =>
      have e1 : kpre (r :: rs) = b :: kpre rs := by rw [kpre, e]
      rw [e1] at h ⊢
      cases k with
      | zero => exact ⟨r, rfl, e⟩
      | succ k =>
        obtain ⟨r', a1, a2⟩ := kpre_at (rs := rs) (k := k) (by simpa using h)
        exact ⟨r', by simpa using a1, by simpa using a2⟩
theorem kpre_end : ∀ {rs : List Str} {r : Str}, rs[(kpre rs).length]? = some r → kOf r = none
  | [], _, h => by simp at h
  | r :: rs, r', h => by
    cases e : kOf r with
    | none =>
      rw [kpre, e] at h
      have : r = r' := by simpa using h
      rw [← this]; exact e
    | some b =>
      have e1 : kpre (r :: rs) = b :: kpre rs := by rw [kpre, e]
      rw [e1] at h
      exact kpre_end (rs := rs) (by simpa using h)
theorem kpre_snoc (x : Str) : ∀ rs, kpre (rs ++ [x]) = if (kpre rs).length = rs.length then kpre rs ++ kpre [x] else kpre rs
  | [] => by simp [kpre]
  | r :: rs => by
    have ih := kpre_snoc x rs
    rw [List.cons_append, kpre, kpre]
    cases e : kOf r with
    | none => simp
    | some b =>
      simp only [List.length_cons, ih]
      by_cases h : (kpre rs).length = rs.length
      · rw [if_pos h, if_pos (by omega)]; rfl
      · rw [if_neg h, if_neg (by omega)]
def lnOf (r : Str) : Ln := match parts sp r with
  | [_, a, b, t] => (wordV a, wordV b, wordV t)
  | _ => (0, 0, 0)
theorem LineIs.eq {n : Int} {ls : List Ln} {r : Str} {w : Ln} (h : LineIs n ls r w) : w = lnOf r := by
  obtain ⟨f, a, b, t, e, _, _, _, _, _, rfl⟩ := h
  unfold lnOf
  rw [e]
def entOf (r : Str) : EntV := match parts sp r with
  | [_, p, l, d, ps, os] => ⟨⟨wordV p, wordV l, wordV d, (parts cm ps).map wordV⟩, (parts cm os).map wordV⟩
  | _ => ⟨⟨0, 0, 0, []⟩, []⟩
theorem StmIs.eq {N : NetV} {r : Str} {e : EntV} (h : StmIs N r e) : e = entOf r := by
  obtain ⟨f, p, l, d, ps, os, q, _, _, _, _, _, _, _, _, rfl⟩ := h.ex
  unfold entOf
  rw [q]
def HdIs (r : Str) : Prop := ∃ f a b, parts sp r = [f, a, b] ∧ f = Str.ofString "net" ∧ NumOk a 0 10 ∧ NumOk b 0 5
def hdP (r : Str) : Int := wordV ((parts sp r).getD 1 Str.empty)
def hdE (r : Str) : Int := wordV ((parts sp r).getD 2 Str.empty)
inductive Out
  | bad (p : Int)
  | good (N : NetV) (es : List EntV)
open Classical in
noncomputable def rdSt (N : NetV) : List EntV → Int → List Str → Out
  | es, _, [] => .good N es
  | es, i, r :: rs => if StmIs N r (entOf r) then rdSt N (es ++ [entOf r]) (i + 1) rs else .bad i
open Classical in
noncomputable def rdLn : NetV → Int → List Str → Out
  | N, _, [] => .good N []
  | N, i, r :: rs => if HeadIs r lineW then (if LineIs N.ks.length N.ls r (lnOf r) then rdLn ⟨N.ks, N.ls ++ [lnOf r], N.pr, N.er⟩ (i + 1) rs else .bad i) else rdSt N [] i (r :: rs)
open Classical in
noncomputable def rdAll : List Str → Out
  | [] => .bad 0
  | r :: rs => if HdIs r then (if kpre rs = [] then .bad 1 else rdLn ⟨kpre rs, [], hdP r, hdE r⟩ (1 + (kpre rs).length) (rs.drop (kpre rs).length)) else .bad 0
def capO (m : Int) : Out → Int
  | .bad p => if m < p then m else p
  | .good _ _ => m
noncomputable def outP (cut : Bool) (rs : List Str) : Out := if cut then .bad (capO rs.length (rdAll rs)) else rdAll rs
def rowsD (rs : List Str) (cut : Bool) : List D := rs.map .str ++ if cut then [.non] else []
theorem rowsD_len (rs : List Str) (cut : Bool) : (rowsD rs cut).length = rs.length + if cut then 1 else 0 := by
  unfold rowsD
  cases cut <;> simp
theorem rowsD_at {rs : List Str} {cut : Bool} {k : Nat} {r : Str} (h : rs[k]? = some r) : ixD (rowsD rs cut) (k : Nat) = some (.str r) := by
  have hk : k < rs.length := by
    rcases Nat.lt_or_ge k rs.length with z | z
    · exact z
    · rw [List.getElem?_eq_none (by omega)] at h; cases h
  unfold ixD rowsD
  rw [if_pos (by omega), Int.toNat_natCast, List.getElem?_append_left (by simpa using hk), List.getElem?_map, h]
  rfl
theorem rowsD_end (rs : List Str) : ixD (rowsD rs true) (rs.length : Nat) = some .non := by
  unfold ixD rowsD
  rw [if_pos (by omega), Int.toNat_natCast, List.getElem?_append_right (by simp)]
  simp
/-! ### the last row left out -/
theorem cap_le {m p : Int} (h : p ≤ m) : capO m (.bad p) = p := if_neg (by omega)
theorem cap_ge {m p : Int} (h : m ≤ p) : capO m (.bad p) = m := by
  by_cases q : m < p
  · exact if_pos q
  · have : p = m := by omega
    rw [this]
    exact if_neg (by omega)
theorem cap_st (N : NetV) (x : Str) (m : Int) : ∀ (rs : List Str) (es : List EntV) (i : Int), m = i + rs.length → capO m (rdSt N es i (rs ++ [x])) = capO m (rdSt N es i rs)
  | [], es, i, h => by
    have : m = i := by simpa using h
    subst this
    rw [List.nil_append, rdSt, rdSt]
    split
    · rfl
    · exact cap_le (by omega)
  | r :: rs, es, i, h => by
    rw [List.cons_append, rdSt, rdSt]
    split
    · exact cap_st N x m rs _ _ (by rw [List.length_cons] at h; omega)
    · rfl
theorem cap_ln (x : Str) (m : Int) : ∀ (rs : List Str) (N : NetV) (i : Int), m = i + rs.length → capO m (rdLn N i (rs ++ [x])) = capO m (rdLn N i rs)
  | [], N, i, h => by
    rw [List.nil_append, rdLn, rdLn]
    split
    · have : m = i := by simpa using h
      subst this
      split
      · rfl
      · exact cap_le (by omega)
    · exact cap_st N x m [] [] i h
  | r :: rs, N, i, h => by
    rw [List.cons_append, rdLn, rdLn]
    split
    · split
      · exact cap_ln x m rs _ _ (by rw [List.length_cons] at h; omega)
      · rfl
    · exact cap_st N x m (r :: rs) [] i h
theorem cap_all (x : Str) (rs : List Str) : capO rs.length (rdAll (rs ++ [x])) = capO rs.length (rdAll rs) := by
  cases rs with
  | nil =>
    rw [List.nil_append, rdAll, rdAll]
    split
    · rw [if_pos (show kpre [] = [] from rfl)]
      rfl
    · rfl
  | cons r rs =>
    rw [List.cons_append, rdAll, rdAll]
    split
    · rw [kpre_snoc]
      by_cases h : (kpre rs).length = rs.length
      · rw [if_pos h]
        by_cases h0 : kpre rs = []
        · have h1 : rs = [] := List.length_eq_zero_iff.mp (by rw [← h, h0]; rfl)
          subst h1
          rw [h0, List.nil_append, if_pos rfl]
          split
          · rfl
          · rename_i hk
            have hd : kpre [x] = [(kpre [x]).getD 0 false] := by
              have := kpre_len [x]
              cases e : kpre [x] with
              | nil => exact absurd e hk
              | cons b t =>
                rw [e] at this
                cases t with
                | nil => rfl
                | cons _ _ => exact absurd this (by simp)
            rw [hd]
            exact rfl
        · rw [if_neg h0]
          cases e : kOf x with
          | none =>
            have e1 : kpre [x] = [] := by rw [kpre, e]
            rw [e1, List.append_nil, if_neg h0, List.drop_append_of_le_length (by omega)]
            exact cap_ln x _ _ _ _ (by rw [List.length_drop, List.length_cons]; omega)
          | some b =>
            have e1 : kpre [x] = [b] := by rw [kpre, e]; rfl
            rw [e1, if_neg (by simp)]
            have e2 : (rs ++ [x]).drop (kpre rs ++ [b]).length = [] := List.drop_eq_nil_of_le (by simp; omega)
            have e3 : rs.drop (kpre rs).length = [] := List.drop_eq_nil_of_le (by omega)
            rw [e2, e3]
            rfl
      · have hl := kpre_len rs
        rw [if_neg h]
        by_cases h0 : kpre rs = []
        · rw [if_pos h0, if_pos h0]
        · rw [if_neg h0, if_neg h0, List.drop_append_of_le_length hl]
          exact cap_ln x _ _ _ _ (by rw [List.length_drop, List.length_cons]; omega)
    · rfl
end Vl
set_option maxHeartbeats 2000000
local macro_rules | `(tactic| walk_at "vs") => `(tactic| simp only [Vl.aSeq, Vl.aFor_eq, Vl.aIf, Vl.aB, Vl.aBin, Vl.aUn, Vl.aV, Vl.slotW, Vl.gt_z, Vl.gt_s, Vl.aCB, Vl.aCall, Vl.aCons, Vl.aNil, Vl.argW, Vl.dLt_eq, Vl.dLe_eq, Vl.dGt_eq, Vl.dGe_eq, Vl.dI0, Vl.dI, Vl.dAdd, Vl.dSub_eq, Vl.dMul, Vl.dDiv_eq, Vl.dMod_eq, Vl.dPow_eq, Vl.dShl_eq, Vl.dNeg, Vl.dNot, Vl.dIsN, Vl.dNotN, Vl.dEq, Vl.dNe, Vl.dIn, Vl.dIx, Vl.fLen_lst, Vl.fLen_tup, Vl.fLen_ow, Vl.fLen_bw, Vl.fLen_scr, Vl.fLen_str, Vl.fInt_int, Vl.fInt_bl, Vl.fAbs_int, Vl.fMax_int, Vl.fMin_int, Vl.fGcd_int, Vl.fLcm_int, Vl.fList_lst, Vl.fList_tup, Vl.fList_ow, Vl.fList_bw, Vl.fList_scr, Vl.seqC, Vl.lstC, Vl.itemsC, Vl.clW, Vl.W.toD, Vl.M.toD, Vl.clDs, Option.map_some, Option.map_none,
  Vl.aRet, Vl.aRetV, Vl.aRetN, Vl.aNext, Vl.aBreak, Vl.aCont, Vl.aC, Vl.aSet, Vl.aSetC, Vl.slotA, Vl.aDrop, Vl.aAsgG, Vl.agN, Vl.agT, Vl.agCons, Vl.agNil, Vl.iLst, Vl.iTup, Vl.iR1, Vl.iR2, Vl.aTup, Vl.aLst, Vl.aAnd, Vl.aOr, Vl.aNot, Vl.aAndV, Vl.aOrV, Vl.aIfE, Vl.aSl, Vl.aoS, Vl.aoN, Vl.aChain, Vl.aAugAdd, Vl.aAugSub, Vl.aMut, Vl.aMutS, Vl.mAppend, Vl.mPop, Vl.mPopAt, Vl.mReverse, Vl.tyM, Vl.aFrz, Vl.frz, Vl.aSetIx, Vl.aLc, Vl.wipeA, Vl.aYes,
  List.set_cons_zero, List.set_cons_succ, List.length_map, List.length_cons, List.length_nil, decide_eq_true_eq, Bool.not_true, Bool.not_false, if_true, if_false, Bool.false_eq_true, Vl.okD_int, Vl.okD_bl, Vl.okD_non, Vl.eqD_int, Vl.eqD_bl, Vl.eqD_non, true_and, and_true, Vl.snoc_int, Vl.aIsi, Vl.isi_bl_bool, Vl.isi_bl_int, Vl.isi_int_int, Vl.isi_int_bool, Vl.isi_non_int, Vl.isi_non_bool, Vl.isi_lst_list, Vl.isi_tup_list, Vl.isi_tup_tuple, Vl.isi_non_tuple, Vl.isi_non_list, Vl.isi_str_str, Vl.isi_lst_bool, Vl.isi_str_bool, Vl.isi_tup_bool, Vl.ixD_0, Vl.ixD_1, Vl.ixD_2, Vl.ixD_3, Vl.ixD_4, Vl.ixD_5, Vl.ixD_6, Vl.ixD_7, Vl.ixD_8, Vl.ixD_9, Vl.ixD_10, Vl.ixD_11, Vl.aFld, Vl.aMeth, Vl.aMake, Vl.aMakeK, Vl.mInsert, Vl.aIndex, Vl.fMax1_eq, Vl.fSorted_eq, List.getElem?_cons_zero, List.getElem?_cons_succ, List.cons_append, List.nil_append, Vl.aPar, Vl.aIsO, Vl.dNeS, Vl.aDNew, Vl.dEqO, Vl.aDGet, Vl.aDIx, Vl.dInD, Vl.kidsW, Vl.keyO, Vl.keyF, Vl.keysF, Vl.getK_map, Vl.M.toDs, Vl.refM, Vl.bwM, Vl.owM, Vl.aMakeO, Vl.aSetX, Vl.aSetCX, Vl.aDropX, Vl.aRetX, Vl.aAsgGX, Vl.aIfX, Vl.xP, Vl.tP, Vl.aBX, Vl.aAndX, Vl.aOrX, Vl.aNotX, Vl.aBinX, Vl.aCallL, Vl.aMethL, Vl.alHere, Vl.alCons, Vl.setP, Vl.apV, Vl.apFld, Vl.apIx, Vl.apKey, Vl.aMutP, Vl.aFSet, Vl.aDPutP, Vl.kidW, Vl.putM, Vl.dctM, Vl.aLstO, Vl.aoCons, Vl.aoNil, Vl.aDisp, Vl.dispGo, Vl.iLstG, Vl.xMut, Vl.fLenD, Vl.one, Vl.mRemove, Vl.apW, Vl.allW_nil, Vl.allW_cons, Vl.anHere, Vl.anCons, Vl.aCallN, Vl.aCallF, Vl.clAlls, Vl.clAll, Vl.flatW, Vl.flatD, Vl.flatDs, Bool.and_true, Bool.true_and, Vl.aDNewM, Vl.fSortT_eq, Vl.fSortDT_eq, Vl.fMinD_eq, Vl.fMaxD_eq, Vl.aForX_eq, Vl.aCallK, Vl.aCallD, Vl.xSortPop, Vl.dEqS, Vl.aSlT, Vl.aClE, Vl.aLenSet, Vl.aMakeD])
namespace Vl
open PySem PySem.Spec PyProof.Rows L2
/-! ### reading the rows of a text -/
def c__read_kinds : CtE := fun ws Q ex => ∃ (r : Str) (rs : List Str) (cut : Bool), ws = [.cl (.lst (rowsD (r :: rs) cut))] ∧ (∀ x ∈ r :: rs, RowS x) ∧ rs.length ≤ 12 ∧ (kpre rs ≠ [] → Q (.fr (.fl ((kpre rs).map kD)))) ∧ (kpre rs = [] → ex 1)
theorem l__read_kinds : ∀ ws P R, c__read_kinds ws P R → ws.length = 1 := by rintro ws P R ⟨r, rs, cut, rfl, _⟩; rfl
/-- _read_kinds: slots 0=rows 1=kinds -/
def a__read_kinds (ex : Int → Prop) : AS :=
  aSeq (aSet 1 (aLst (aNil))) (aSeq (aWhile (aAnd (aB (aBin (dLt) (aBin dAdd (aCB fLen1 (aCons (aV 1) (aNil))) (aC (.int 1))) (aCB fLen1 (aCons (aV 0) (aNil))))) (aB (aBin (dIn false) (aBin dIx (aV 0) (aBin dAdd (aCB fLen1 (aCons (aV 1) (aNil))) (aC (.int 1)))) (aLst (aCons (aC (.str "host")) (aCons (aC (.str "switch")) (aNil))))))) (aSeq (aMut "list" 1 mAppend (aCons (aBin dIx (aV 0) (aBin dAdd (aCB fLen1 (aCons (aV 1) (aNil))) (aC (.int 1)))) (aNil))) (aIf (aB (aBin (dGt) (aCB fLen1 (aCons (aV 1) (aNil))) (aC (.int 12)))) (aRaise ex (aCB fLen1 (aCons (aV 1) (aNil)))) (aNext)))) (aSeq (aIf (aB (aBin (dEq) (aCB fLen1 (aCons (aV 1) (aNil))) (aC (.int 0)))) (aRaise ex (aCB fMin2 (aCons (aC (.int 1)) (aCons (aCB fLen1 (aCons (aV 0) (aNil))) (aNil))))) (aNext)) (aRetV 1)))
theorem w__read_kinds : ∀ ws P R, c__read_kinds ws P R → a__read_kinds R { nx := fun _ => P (.cl .non), rt := fun w _ => P w } (startA 2 ws) := by
  rintro ws P R ⟨r, rs, cut, rfl, hok, hl, hy, hn⟩
  show a__read_kinds R _ [.im (.lst (rowsD (r :: rs) cut)), .non]
  unfold a__read_kinds aRaise
  have oh : okD (.str (Str.ofString "host")) = true := okD_k true
  have os : okD (.str (Str.ofString "switch")) = true := okD_k false
  have hkl := kpre_len rs
  have hln := rowsD_len (r :: rs) cut
  walk_at "vs"
  refine ⟨by decide, ?_⟩
  refine while_by (fun m δ => ∃ k, m = (kpre rs).length - k ∧ k ≤ (kpre rs).length ∧ δ = [.im (.lst (rowsD (r :: rs) cut)), .ow false (.fl (((kpre rs).take k).map kD))]) (kpre rs).length ⟨0, rfl, Nat.zero_le _, rfl⟩ ?_
  rintro m δ ⟨k, rfl, hk, rfl⟩
  have lt : ((kpre rs).take k).length = k := by rw [List.length_take]; omega
  walk_at "vs"
  rw [lt]
  have okk : okD (D.lst [D.str (Str.ofString "host"), D.str (Str.ofString "switch")]) = true := by decide +kernel
  have hlc : (rowsD (r :: rs) cut).length = rs.length + 1 + if cut then 1 else 0 := hln
  have hmin : (if ((rowsD (r :: rs) cut).length : Int) < 1 then ((rowsD (r :: rs) cut).length : Int) else 1) = 1 := if_neg (by omega)
  rw [hmin]
  rcases Nat.lt_or_eq_of_le hk with q | q
  · obtain ⟨x, hx, hkx⟩ := kpre_at q
    have hkr : k < rs.length := by omega
    have e : ixD (rowsD (r :: rs) cut) ((k : Int) + 1) = some (kD ((kpre rs).getD k false)) := by
      have := rowsD_at (rs := r :: rs) (cut := cut) (k := k + 1) (r := x) (by simpa using hx)
      rw [← kOf_D hkx, ← this]
      congr 1
    have et : ((kpre rs).take k).map kD ++ [kD ((kpre rs).getD k false)] = ((kpre rs).take (k + 1)).map kD := by
      rw [List.take_succ, List.map_append, List.getD_eq_getElem?_getD, List.getElem?_eq_getElem q]
      rfl
    refine ite_yes (by rw [hlc]; split <;> omega) ?_
    rw [e]
    simp only [et]
    exact ⟨by decide, okD_k _, okk, ite_yes (by cases (kpre rs).getD k false <;> decide +kernel) ⟨by omega, ite_no (by rw [List.length_map, List.length_take]; omega) ⟨(kpre rs).length - (k + 1), by omega, k + 1, rfl, by omega, rfl⟩⟩⟩
  · have fin : if (k : Int) = 0 then ∃ i, [W.cl (D.int 1)] = [W.cl (D.int i)] ∧ R i else P (W.fr (M.fl (List.map kD (List.take k (kpre rs))))) := by
      rw [q, List.take_length]
      by_cases h0 : kpre rs = []
      · exact ite_yes (by rw [h0]; rfl) ⟨1, rfl, hn h0⟩
      · exact ite_no (by have := List.length_pos_iff.mpr h0; omega) (hy h0)
    by_cases h1 : k < rs.length
    · obtain ⟨x, hx⟩ : ∃ x, rs[k]? = some x := ⟨_, List.getElem?_eq_getElem h1⟩
      have hkx : kOf x = none := kpre_end (rs := rs) (by rw [← q]; exact hx)
      have e : ixD (rowsD (r :: rs) cut) ((k : Int) + 1) = some (.str x) := by
        have := rowsD_at (rs := r :: rs) (cut := cut) (k := k + 1) (r := x) (by simpa using hx)
        rw [← this]
        congr 1
      refine ite_yes (by rw [hlc]; split <;> omega) ?_
      rw [e]
      refine ⟨by decide, okD_str _ (hok x (List.mem_cons_of_mem _ (List.mem_of_getElem? hx))).ok, okk, ite_no ?_ fin⟩
      unfold inD
      simp only [List.any_cons, List.any_nil, eqD_str, Bool.or_false, Bool.or_eq_true, decide_eq_true_eq]
      unfold kOf at hkx
      rintro (z | z)
      · rw [if_pos z.symm] at hkx; cases hkx
      · rw [if_neg (by rw [← z]; decide +kernel), if_pos z.symm] at hkx; cases hkx
    · cases cut with
      | false => exact ite_no (by rw [hlc]; simp; omega) fin
      | true =>
        have hkl2 : k = rs.length := by omega
        have e : ixD (rowsD (r :: rs) true) ((k : Int) + 1) = some .non := by
          have := rowsD_end (r :: rs)
          rw [← this, hkl2]
          congr 1
        refine ite_yes (by rw [hlc]; simp; omega) ?_
        rw [e]
        exact ⟨by decide, by decide, okk, ite_no (by decide +kernel) fin⟩
def c__read_rows : CtE := fun ws Q ex => ∃ (rs : List Str) (cut : Bool), ws = [.cl (.lst (rowsD rs cut))] ∧ (∀ x ∈ rs, RowS x) ∧ rs.length ≤ 13 ∧ (∀ N es, outP cut rs = .good N es → Q (.cl (.tup [netD N, .lst (es.map entD)]))) ∧ (∀ p, outP cut rs = .bad p → ex p)
theorem l__read_rows : ∀ ws P R, c__read_rows ws P R → ws.length = 1 := by rintro ws P R ⟨rs, cut, rfl, _⟩; rfl
theorem out_bad {cut : Bool} {rs : List Str} {i : Int} (h : rdAll rs = .bad i) (hi : i ≤ rs.length) : outP cut rs = .bad i := by
  unfold outP
  rw [h]
  cases cut
  · rfl
  · exact congrArg Out.bad (cap_le hi)
theorem three {r : Str} (hl : ((parts sp r).length : Int) = 3) : ∃ f a b, parts sp r = [f, a, b] := by
  match h : parts sp r with
  | [f, a, b] => exact ⟨f, a, b, rfl⟩
  | [] => rw [h] at hl; cases hl
  | [_] => rw [h] at hl; cases hl
  | [_, _] => rw [h] at hl; cases hl
  | _ :: _ :: _ :: _ :: _ => rw [h] at hl; simp at hl; omega
/-- _read_rows: slots 0=rows 1=words 2=processing 3=error 4=kinds 5=net 6=at 7=plan -/
def a__read_rows (ex : Int → Prop) : AS :=
  aSeq (aIf (aOr (aB (aBin (dEq) (aCB fLen1 (aCons (aV 0) (aNil))) (aC (.int 0)))) (aB (aBin (dIsN) (aBin dIx (aV 0) (aC (.int 0))) (aC .non)))) (aRaise ex (aC (.int 0))) (aNext)) (aSeq (aSetC 1 (aCallE ex c__words (aCons (aBin dIx (aV 0) (aC (.int 0))) (aCons (aC (.str "net")) (aCons (aC (.int 3)) (aCons (aC (.int 0)) (aNil))))))) (aSeq (aSetC 2 (aCallE ex c__number (aCons (aBin dIx (aV 1) (aC (.int 0))) (aCons (aC (.int 0)) (aCons (aC (.int 10)) (aCons (aC (.int 0)) (aNil))))))) (aSeq (aSetC 3 (aCallE ex c__number (aCons (aBin dIx (aV 1) (aC (.int 1))) (aCons (aC (.int 0)) (aCons (aC (.int 5)) (aCons (aC (.int 0)) (aNil))))))) (aSeq (aSetC 4 (aCallE ex c__read_kinds (aCons (aV 0) (aNil)))) (aSeq (aSetC 5 (aMakeK 0 2 2 c_Net___init__ (aCons (aV 4) (aCons (aLst (aNil)) (aNil))) (aCons (aV 2) (aCons (aV 3) (aNil))))) (aSeq (aSetC 6 (aBin dAdd (aC (.int 1)) (aCB fLen1 (aCons (aV 4) (aNil))))) (aSeq (aWhile (aAnd (aB (aBin (dLt) (aV 6) (aCB fLen1 (aCons (aV 0) (aNil))))) (aAnd (aB (aBin (dNotN) (aBin dIx (aV 0) (aV 6)) (aC .non))) (aB (aBin (dEq) (aBin dIx (aSplit (aBin dIx (aV 0) (aV 6)) (aCons (aC (.str " ")) (aNil))) (aC (.int 0))) (aC (.str "line")))))) (aSeq (aSetC 5 (aMakeK 0 2 2 c_Net___init__ (aCons (aV 4) (aCons (aBin dAdd (aFld 0 1 (aV 5)) (aLst (aCons (aCallE ex c__read_line (aCons (aBin dIx (aV 0) (aV 6)) (aCons (aV 5) (aCons (aV 6) (aNil))))) (aNil)))) (aNil))) (aCons (aV 2) (aCons (aV 3) (aNil))))) (aAugAdd 6 (aC (.int 1))))) (aSeq (aSet 7 (aLst (aNil))) (aSeq (aWhile (aB (aBin (dLt) (aV 6) (aCB fLen1 (aCons (aV 0) (aNil))))) (aSeq (aIf (aB (aBin (dIsN) (aBin dIx (aV 0) (aV 6)) (aC .non))) (aRaise ex (aV 6)) (aNext)) (aSeq (aMut "list" 7 mAppend (aCons (aCallE ex c__read_stream (aCons (aBin dIx (aV 0) (aV 6)) (aCons (aV 5) (aCons (aV 6) (aNil))))) (aNil))) (aAugAdd 6 (aC (.int 1)))))) (aFrz 7 (aRet (aTup (aCons (aV 5) (aCons (aV 7) (aNil)))))))))))))))
theorem w__read_rows : ∀ ws P R, c__read_rows ws P R → a__read_rows R { nx := fun _ => P (.cl .non), rt := fun w _ => P w } (startA 8 ws) := by
  rintro ws P R ⟨rs, cut, rfl, hok, hl, hy, hn⟩
  show a__read_rows R _ [.im (.lst (rowsD rs cut)), .non, .non, .non, .non, .non, .non, .non]
  have bad : ∀ i : Int, rdAll rs = .bad i → i ≤ rs.length → R i := fun i h q => hn i (out_bad h q)
  unfold a__read_rows aRaise aCallE
  walk_at "vs"
  cases rs with
  | nil =>
    have b0 : R 0 := bad 0 (by rw [rdAll]) (by simp)
    cases cut with
    | false => exact ite_yes rfl ⟨0, rfl, b0⟩
    | true =>
      refine ite_no (by decide) ?_
      rw [show ixD (rowsD [] true) 0 = some .non from rfl]
      exact ⟨0, rfl, b0⟩
  | cons r rs =>
    have hr := hok r List.mem_cons_self
    have e0 : ixD (rowsD (r :: rs) cut) 0 = some (.str r) := rowsD_at (rs := r :: rs) (cut := cut) (k := 0) rfl
    have hln := rowsD_len (r :: rs) cut
    have lr := hr.len
    have b0 : ¬ HdIs r → R 0 := fun z => bad 0 (by rw [rdAll, if_neg z]) (by simp; omega)
    obtain ⟨RD, hRD⟩ : ∃ RD, RD = rowsD (r :: rs) cut := ⟨_, rfl⟩
    rw [← hRD] at e0 hln
    rw [← hRD, e0]
    refine ite_no (by rw [hln, List.length_cons]; omega) ?_
    walk_at "vs"
    refine ⟨r, Str.ofString "net", 3, 0, rfl, hr.ok, by decide +kernel, hr.len, fun h => ?_, fun h => b0 fun ⟨f, a, b, e, hf, _⟩ => h ⟨by rw [e, hf]; rfl, by rw [e]; rfl⟩⟩
    obtain ⟨h1, h2⟩ := h
    obtain ⟨f, a, b, e⟩ := three (r := r) h2
    have hf : f = Str.ofString "net" := by rw [e] at h1; exact Option.some.inj h1
    have ra : RowS a := hr.part (c := sp) (by rw [e]; simp)
    have rb : RowS b := hr.part (c := sp) (by rw [e]; simp)
    have la := ra.len
    have lb := rb.len
    have uniq : HdIs r → NumOk a 0 10 ∧ NumOk b 0 5 := fun ⟨f', a', b', q, _, q1, q2⟩ => by
      rw [e] at q
      simp only [List.cons.injEq] at q
      obtain ⟨_, rfl, rfl, _⟩ := q
      exact ⟨q1, q2⟩
    rw [e]
    walk_at "vs"
    rw [show ixD (List.map D.str (List.drop 1 [f, a, b])) 0 = some (.str a) from rfl, show ixD (List.map D.str (List.drop 1 [f, a, b])) 1 = some (.str b) from rfl]
    refine ⟨a, 0, 10, 0, rfl, ra.ok, by omega, fun na => ?_, fun na => b0 fun z => na (uniq z).1⟩
    refine ⟨b, 0, 5, 0, rfl, rb.ok, by omega, fun nb => ?_, fun nb => b0 fun z => nb (uniq z).2⟩
    have hh : HdIs r := ⟨f, a, b, e, hf, na, nb⟩
    have eP : hdP r = wordV a := by unfold hdP; rw [e]; rfl
    have eE : hdE r = wordV b := by unfold hdE; rw [e]; rfl
    refine ⟨r, rs, cut, by rw [hRD], hok, by simpa using hl, fun hk => ?_, fun hk => bad 1 (by rw [rdAll, if_pos hh, if_pos hk]) (by simp; omega)⟩
    have hall : rdAll (r :: rs) = rdLn ⟨kpre rs, [], wordV a, wordV b⟩ ((1 + (kpre rs).length : Nat) : Int) ((r :: rs).drop (1 + (kpre rs).length)) := by
      rw [rdAll, if_pos hh, if_neg hk, eP, eE, Nat.add_comm 1 (kpre rs).length, List.drop_succ_cons, Int.natCast_add, Int.add_comm]
      rfl
    walk_at "vs"
    refine ⟨by decide, _, _, _, _, _, _, rfl, .inl rfl, .inl rfl, ?_⟩
    obtain ⟨W1, hW1⟩ : ∃ W1, W1 = D.lst (List.map D.str (List.drop 1 [f, a, b])) := ⟨_, rfl⟩
    rw [← hW1]
    have hkl := kpre_len rs
    refine while_by (fun m δ => ∃ (i : Nat) (ls : List Ln), i ≤ rs.length + 1 ∧ m = rs.length + 1 - i ∧ rdAll (r :: rs) = rdLn ⟨kpre rs, ls, wordV a, wordV b⟩ (i : Int) ((r :: rs).drop i) ∧ ls.length ≤ i ∧ δ = [.im (.lst RD), .im W1, .im (.int (wordV a)), .im (.int (wordV b)), .im (.lst ((kpre rs).map kD)), .im (.ins 0 [.lst ((kpre rs).map kD), .lst (ls.map lnD), .int (wordV a), .int (wordV b)]), .im (.int i), .non]) _ ⟨1 + (kpre rs).length, [], by omega, rfl, hall, by simp, by rw [Int.natCast_add]; rfl⟩ ?_
    rintro m δ ⟨i, ls, hi, rfl, hI, hll, rfl⟩
    walk_at "vs"
    simp only [aSplit]
    walk_at "vs"
    rw [hln]
    have oki : ∀ {x : Str} {j : Nat}, (r :: rs)[j]? = some x → RowS x := fun h => hok _ (List.mem_of_getElem? h)
    have dr : ∀ {x : Str} {j : Nat}, (r :: rs)[j]? = some x → (r :: rs).drop j = x :: (r :: rs).drop (j + 1) := fun {x j} h => by
      have hj : j < (r :: rs).length := by
        rcases Nat.lt_or_ge j (r :: rs).length with z | z
        · exact z
        · rw [List.getElem?_eq_none z] at h; cases h
      rw [List.drop_eq_getElem_cons hj]
      rw [List.getElem?_eq_getElem hj] at h
      rw [Option.some.inj h]
    have lc : ((r :: rs).length : Nat) = rs.length + 1 := rfl
    rcases Nat.lt_or_eq_of_le hi with q | q
    case' inl =>
      obtain ⟨x, hx⟩ : ∃ x, (r :: rs)[i]? = some x := ⟨_, List.getElem?_eq_getElem (by simpa using q)⟩
      have rx := oki hx
      have lx := rx.len
      have ex : ixD RD (i : Int) = some (.str x) := by rw [hRD]; exact rowsD_at hx
      obtain ⟨y, ys, hys⟩ := List.exists_cons_of_ne_nil (sp_ne x)
      have oky := okD_str _ ((part_ok (c := sp) (r := x) (p := y) (by rw [hys]; exact List.mem_cons_self)).str rx.ok)
      refine ite_yes (by rw [lc]; split <;> omega) ?_
      rw [ex]
      simp only []
      rw [split_sp]
      refine ⟨rfl, by omega, ?_⟩
      rw [hys, show ixD (List.map D.str (y :: ys)) 0 = some (.str y) from rfl]
      refine ⟨oky, okD_str _ (by decide +kernel), ?_⟩
      by_cases hh2 : HeadIs x lineW
      case' pos =>
        have hy1 : y = lineW := by unfold HeadIs at hh2; rw [hys] at hh2; exact Option.some.inj hh2
        refine ite_yes (by rw [eqD_str]; exact decide_eq_true hy1) ⟨⟨kpre rs, ls, wordV a, wordV b⟩, x, _, rfl, rx, by show (kpre rs).length ≤ 100; have : rs.length + 1 ≤ 13 := hl; omega, fun w _ hw => ?_, fun hno => ?_⟩
        case' refine_1 =>
          have ew := hw.eq
          have hw2 : LineIs (kpre rs).length ls x (lnOf x) := ew ▸ hw
          simp only [clDs, W.toD, M.toD]
          have : rs.length + 1 ≤ 13 := hl
          refine ⟨by simp, by simp; omega, _, _, _, _, _, _, rfl, .inl rfl, .inl rfl, rs.length + 1 - (i + 1), by omega, i + 1, ls ++ [w], by omega, rfl, ?_, by simp; omega, ?_⟩
          case' refine_1 =>
            rw [hI, dr hx, rdLn, if_pos hh2, if_pos hw2, ew]
            rfl
          case' refine_2 =>
            rw [List.map_append]
            rfl
        case' refine_2 =>
          refine bad i ?_ (by omega)
          rw [hI, dr hx, rdLn, if_pos hh2, if_neg fun z => hno _ ⟨hh2, z⟩]
      case' neg =>
        have hS : rdAll (r :: rs) = rdSt ⟨kpre rs, ls, wordV a, wordV b⟩ [] (i : Int) ((r :: rs).drop i) := by rw [hI, dr hx, rdLn, if_neg hh2]
        refine ite_no (by rw [eqD_str, decide_eq_false fun z => hh2 (by unfold HeadIs; rw [hys, z]; rfl)]; exact fun z => nomatch z) ?_
    case' inr =>
      have hd0 : (r :: rs).drop i = [] := List.drop_eq_nil_of_le (by rw [lc]; omega)
      have hS : rdAll (r :: rs) = rdSt ⟨kpre rs, ls, wordV a, wordV b⟩ [] (i : Int) ((r :: rs).drop i) := by rw [hI, hd0, rdLn, rdSt]
      cases hc : cut
      case' false =>
        refine ite_no (by rw [lc]; simp; omega) ?_
      case' true =>
        refine ite_yes (by rw [lc]; simp; omega) ?_
        rw [show ixD RD (i : Int) = some .non by rw [hRD, hc, q]; exact rowsD_end (r :: rs)]
        simp only []
    all_goals
      refine ⟨by decide, ?_⟩
      refine while_by (fun m δ => ∃ (j : Nat) (es : List EntV), j ≤ rs.length + 1 ∧ m = rs.length + 1 - j ∧ rdAll (r :: rs) = rdSt ⟨kpre rs, ls, wordV a, wordV b⟩ es (j : Int) ((r :: rs).drop j) ∧ es.length ≤ j ∧ δ = [.im (.lst RD), .im W1, .im (.int (wordV a)), .im (.int (wordV b)), .im (.lst ((kpre rs).map kD)), .im (.ins 0 [.lst ((kpre rs).map kD), .lst (ls.map lnD), .int (wordV a), .int (wordV b)]), .im (.int j), .ow false (.fl (es.map entD))]) _ ⟨i, [], hi, rfl, hS, by simp, rfl⟩ ?_
      clear hI hS hi
      rintro m δ ⟨j, es, hj, rfl, hJ, hel, rfl⟩
      walk_at "vs"
      rw [hln, lc]
      rcases Nat.lt_or_eq_of_le hj with q2 | q2
      · obtain ⟨x, hx⟩ : ∃ x, (r :: rs)[j]? = some x := ⟨_, List.getElem?_eq_getElem (by simpa using q2)⟩
        have rx := oki hx
        have ex : ixD RD (j : Int) = some (.str x) := by rw [hRD]; exact rowsD_at hx
        have l12 : rs.length + 1 ≤ 13 := hl
        refine ite_yes (by split <;> omega) ?_
        rw [ex]
        simp only []
        refine ⟨⟨kpre rs, ls, wordV a, wordV b⟩, x, _, rfl, rx, by show (kpre rs).length ≤ 100; omega, fun e he => ?_, fun hno => ?_⟩
        · have ee := he.eq
          have he2 : StmIs ⟨kpre rs, ls, wordV a, wordV b⟩ x (entOf x) := ee ▸ he
          refine ⟨by simp; omega, rs.length + 1 - (j + 1), by omega, j + 1, es ++ [e], by omega, rfl, ?_, by simp; omega, ?_⟩
          · rw [hJ, dr hx, rdSt, if_pos he2, ee]
            rfl
          · rw [List.map_append]
            rfl
        · refine bad j ?_ (by rw [lc]; omega)
          rw [hJ, dr hx, rdSt, if_neg (hno _)]
      · have hd1 : (r :: rs).drop j = [] := List.drop_eq_nil_of_le (by rw [lc]; omega)
        rw [hd1, rdSt] at hJ
        by_cases hct : cut = true
        · refine ite_yes (by rw [if_pos hct]; omega) ?_
          rw [show ixD RD (j : Int) = some .non by rw [hRD, hct, q2]; exact rowsD_end (r :: rs)]
          exact ⟨j, rfl, hn j (by unfold outP; rw [if_pos hct, hJ, q2]; rfl)⟩
        · exact ite_no (by rw [if_neg hct]; omega) ⟨by decide, hy ⟨kpre rs, ls, wordV a, wordV b⟩ es (by unfold outP; rw [if_neg hct, hJ])⟩
end Vl
set_option maxHeartbeats 2000000
local macro_rules | `(tactic| walk_at "vs") => `(tactic| simp only [Vl.aSeq, Vl.aFor_eq, Vl.aIf, Vl.aB, Vl.aBin, Vl.aUn, Vl.aV, Vl.slotW, Vl.gt_z, Vl.gt_s, Vl.aCB, Vl.aCall, Vl.aCons, Vl.aNil, Vl.argW, Vl.dLt_eq, Vl.dLe_eq, Vl.dGt_eq, Vl.dGe_eq, Vl.dI0, Vl.dI, Vl.dAdd, Vl.dSub_eq, Vl.dMul, Vl.dDiv_eq, Vl.dMod_eq, Vl.dPow_eq, Vl.dShl_eq, Vl.dNeg, Vl.dNot, Vl.dIsN, Vl.dNotN, Vl.dEq, Vl.dNe, Vl.dIn, Vl.dIx, Vl.fLen_lst, Vl.fLen_tup, Vl.fLen_ow, Vl.fLen_bw, Vl.fLen_scr, Vl.fLen_str, Vl.fInt_int, Vl.fInt_bl, Vl.fAbs_int, Vl.fMax_int, Vl.fMin_int, Vl.fGcd_int, Vl.fLcm_int, Vl.fList_lst, Vl.fList_tup, Vl.fList_ow, Vl.fList_bw, Vl.fList_scr, Vl.seqC, Vl.lstC, Vl.itemsC, Vl.clW, Vl.W.toD, Vl.M.toD, Vl.clDs, Option.map_some, Option.map_none,
  Vl.aRet, Vl.aRetV, Vl.aRetN, Vl.aNext, Vl.aBreak, Vl.aCont, Vl.aC, Vl.aSet, Vl.aSetC, Vl.slotA, Vl.aDrop, Vl.aAsgG, Vl.agN, Vl.agT, Vl.agCons, Vl.agNil, Vl.iLst, Vl.iTup, Vl.iR1, Vl.iR2, Vl.aTup, Vl.aLst, Vl.aAnd, Vl.aOr, Vl.aNot, Vl.aAndV, Vl.aOrV, Vl.aIfE, Vl.aSl, Vl.aoS, Vl.aoN, Vl.aChain, Vl.aAugAdd, Vl.aAugSub, Vl.aMut, Vl.aMutS, Vl.mAppend, Vl.mPop, Vl.mPopAt, Vl.mReverse, Vl.tyM, Vl.aFrz, Vl.frz, Vl.aSetIx, Vl.aLc, Vl.wipeA, Vl.aYes,
  List.set_cons_zero, List.set_cons_succ, List.length_map, List.length_cons, List.length_nil, decide_eq_true_eq, Bool.not_true, Bool.not_false, if_true, if_false, Bool.false_eq_true, Vl.okD_int, Vl.okD_bl, Vl.okD_non, Vl.eqD_int, Vl.eqD_bl, Vl.eqD_non, true_and, and_true, Vl.snoc_int, Vl.aIsi, Vl.isi_bl_bool, Vl.isi_bl_int, Vl.isi_int_int, Vl.isi_int_bool, Vl.isi_non_int, Vl.isi_non_bool, Vl.isi_lst_list, Vl.isi_tup_list, Vl.isi_tup_tuple, Vl.isi_non_tuple, Vl.isi_non_list, Vl.isi_str_str, Vl.isi_lst_bool, Vl.isi_str_bool, Vl.isi_tup_bool, Vl.ixD_0, Vl.ixD_1, Vl.ixD_2, Vl.ixD_3, Vl.ixD_4, Vl.ixD_5, Vl.ixD_6, Vl.ixD_7, Vl.ixD_8, Vl.ixD_9, Vl.ixD_10, Vl.ixD_11, Vl.aFld, Vl.aMeth, Vl.aMake, Vl.aMakeK, Vl.mInsert, Vl.aIndex, Vl.fMax1_eq, Vl.fSorted_eq, List.getElem?_cons_zero, List.getElem?_cons_succ, List.cons_append, List.nil_append, Vl.aPar, Vl.aIsO, Vl.dNeS, Vl.aDNew, Vl.dEqO, Vl.aDGet, Vl.aDIx, Vl.dInD, Vl.kidsW, Vl.keyO, Vl.keyF, Vl.keysF, Vl.getK_map, Vl.M.toDs, Vl.refM, Vl.bwM, Vl.owM, Vl.aMakeO, Vl.aSetX, Vl.aSetCX, Vl.aDropX, Vl.aRetX, Vl.aAsgGX, Vl.aIfX, Vl.xP, Vl.tP, Vl.aBX, Vl.aAndX, Vl.aOrX, Vl.aNotX, Vl.aBinX, Vl.aCallL, Vl.aMethL, Vl.alHere, Vl.alCons, Vl.setP, Vl.apV, Vl.apFld, Vl.apIx, Vl.apKey, Vl.aMutP, Vl.aFSet, Vl.aDPutP, Vl.kidW, Vl.putM, Vl.dctM, Vl.aLstO, Vl.aoCons, Vl.aoNil, Vl.aDisp, Vl.dispGo, Vl.iLstG, Vl.xMut, Vl.fLenD, Vl.one, Vl.mRemove, Vl.apW, Vl.allW_nil, Vl.allW_cons, Vl.anHere, Vl.anCons, Vl.aCallN, Vl.aCallF, Vl.clAlls, Vl.clAll, Vl.flatW, Vl.flatD, Vl.flatDs, Bool.and_true, Bool.true_and, Vl.aDNewM, Vl.fSortT_eq, Vl.fSortDT_eq, Vl.fMinD_eq, Vl.fMaxD_eq, Vl.aForX_eq, Vl.aCallK, Vl.aCallD, Vl.xSortPop, Vl.dEqS, Vl.aSlT, Vl.aClE, Vl.aLenSet, Vl.aMakeD])
namespace Vl
open PySem PySem.Spec PyProof.Rows L2
theorem tlj (y : Str) (ps : List Str) : TL.tl (Txt.join y ps) = TL.joinL (TL.tl y) (ps.map TL.tl) := by rw [TL.join_eq, TL.tl_join]
theorem strOk_iff (x : Str) : PyData.strOk x = true ↔ ∀ c ∈ TL.tl x, c < 0x110000 := by
  unfold PyData.strOk
  rw [← Array.all_toList, List.all_eq_true]
  exact ⟨fun h c hc => of_decide_eq_true (h c hc), fun h c hc => decide_eq_true (h c hc)⟩
/-! ### rows, each ended by a line feed -/
def nl : Str := Str.ofString "\n"
theorem tl_nl : TL.tl nl = [10] := by decide +kernel
def textL (rs : List Str) : List Nat := (rs.map fun r => TL.tl r ++ [10]).flatten
def textR (rs : List Str) : Str := ⟨(textL rs).toArray⟩
theorem tl_textR (rs : List Str) : TL.tl (textR rs) = textL rs := rfl
theorem textL_snoc (rs : List Str) (r : Str) : textL (rs ++ [r]) = textL rs ++ (TL.tl r ++ [10]) := by
  unfold textL
  rw [List.map_append, List.flatten_append]
  simp
theorem textR_snoc (rs : List Str) (r : Str) : textR rs ++ r ++ nl = textR (rs ++ [r]) := TL.ext_tl (by
  rw [TL.tl_append, TL.tl_append, tl_textR, tl_textR, textL_snoc, tl_nl, List.append_assoc])
theorem joinL_nil : ∀ ps : List (List Nat), TL.joinL [] ps = ps.flatten
  | [] => rfl
  | [p] => by simp [TL.joinL]
  | p :: q :: r => by
    have ih := joinL_nil (q :: r)
    show p ++ ([] ++ TL.joinL [] (q :: r)) = _
    rw [ih]
    simp
theorem textR_join (rs : List Str) : Txt.join (Str.ofString "") (rs.map fun r => r ++ nl) = textR rs := TL.ext_tl (by
  rw [tlj, show TL.tl (Str.ofString "") = [] by decide +kernel, joinL_nil, tl_textR]
  unfold textL
  rw [List.map_map]
  congr 1
  exact List.map_congr_left fun r _ => by
    show TL.tl (r ++ nl) = _
    rw [TL.tl_append, tl_nl])
theorem joinL_end : ∀ ps : List (List Nat), TL.joinL [10] (ps ++ [[]]) = (ps.map fun p => p ++ [10]).flatten
  | [] => rfl
  | [p] => by simp [TL.joinL]
  | p :: q :: r => by
    have ih := joinL_end (q :: r)
    show p ++ ([10] ++ TL.joinL [10] ((q :: r) ++ [[]])) = _
    rw [ih]
    simp
theorem textR_split {rs : List Str} (h : ∀ r ∈ rs, 10 ∉ TL.tl r) : Txt.split (textR rs) nl = rs ++ [Str.empty] := by
  have e : textR rs = Txt.join nl (rs ++ [Str.empty]) := TL.ext_tl (by
    rw [tlj, tl_nl, List.map_append, show [Str.empty].map TL.tl = [[]] from rfl, joinL_end, tl_textR, List.map_map]
    rfl)
  rw [e]
  refine TL.split_join (y := nl) (s := 10) (S := []) tl_nl (by decide +kernel) (by simp) fun p hp => ?_
  rcases List.mem_append.mp hp with q | q
  · exact h p q
  · rw [List.mem_singleton.mp q]
    exact fun z => nomatch z
theorem textR_ok {rs : List Str} (h : ∀ r ∈ rs, PyData.strOk r = true) : PyData.strOk (textR rs) = true := by
  rw [strOk_iff, tl_textR]
  intro c hc
  obtain ⟨l, hl, hc⟩ := List.mem_flatten.mp hc
  obtain ⟨r, hr, rfl⟩ := List.mem_map.mp hl
  rcases List.mem_append.mp hc with q | q
  · exact (strOk_iff r).mp (h r hr) c q
  · rw [List.mem_singleton.mp q]; decide
theorem textR_len : ∀ {rs : List Str} {n : Nat}, (∀ r ∈ rs, r.length ≤ n) → (textR rs).length ≤ rs.length * (n + 1)
  | [], n, _ => Nat.zero_le _
  | r :: rs, n, h => by
    have ih := textR_len (rs := rs) fun x hx => h x (List.mem_cons_of_mem _ hx)
    have h1 := h r List.mem_cons_self
    rw [TL.len_tl] at h1 ih ⊢
    rw [tl_textR] at ih ⊢
    unfold textL at ih ⊢
    rw [List.map_cons, List.flatten_cons, List.length_append, List.length_append, List.length_singleton, List.length_cons, Nat.add_mul, Nat.one_mul]
    omega

def c_read_text : CtE := fun ws Q ex => ∃ (t : Str) (rs : List Str) (x : Str) (cut : Bool), ws = [.cl (.str t)] ∧ Txt.split t nl = rs ++ [x] ∧ (x = Str.ofString "" ↔ cut = false) ∧ PyData.strOk x = true ∧ t.length + 2 ≤ 1000000 ∧ (∀ y ∈ rs, RowS y) ∧ rs.length ≤ 13 ∧ (∀ N es, outP cut rs = .good N es → Q (.cl (.tup [netD N, .lst (es.map entD)]))) ∧ (∀ p, outP cut rs = .bad p → ex p)
theorem l_read_text : ∀ ws P R, c_read_text ws P R → ws.length = 1 := by rintro ws P R ⟨t, rs, x, cut, rfl, _⟩; rfl
/-- read_text: slots 0=text 1=rows -/
def a_read_text (ex : Int → Prop) : AS :=
  aSeq (aSet 1 (aSplit (aV 0) (aCons (aC (.str "\n")) (aNil)))) (aSeq (aIfX (aBX (aBinXL (dNe) (xMut "list" (apV 1) mPop aNil) (aC (.str "")))) (aRet (aCallE ex c__read_rows (aCons (aBin dAdd (aV 1) (aLst (aCons (aC .non) (aNil)))) (aNil)))) (aNext)) (aFrz 1 (aRet (aCallE ex c__read_rows (aCons (aV 1) (aNil))))))
theorem w_read_text : ∀ ws P R, c_read_text ws P R → a_read_text R { nx := fun _ => P (.cl .non), rt := fun w _ => P w } (startA 2 ws) := by
  rintro ws P R ⟨t, rs, x, cut, rfl, hsp, hx, hxo, hl, hok, h13, hy, hn⟩
  show a_read_text R _ [.im (.str t), .non]
  unfold a_read_text aCallE
  walk_at "vs"
  simp only [aSplit, aBinXL]
  walk_at "vs"
  rw [show Txt.split t (Str.ofString "\n") = rs ++ [x] from hsp]
  have ed : (List.map D.str (rs ++ [x])).dropLast = rs.map D.str := by
    rw [List.map_append]
    exact List.dropLast_concat
  have ei : (List.map D.str (rs ++ [x]))[(rs ++ [x]).length - 1]? = some (.str x) := by
    rw [List.getElem?_map, List.length_append, List.length_singleton, Nat.add_sub_cancel, List.getElem?_append_right (Nat.le_refl _), Nat.sub_self]
    rfl
  rw [ed, ei]
  refine ⟨by rfl, hl, okD_str _ hxo, okD_str _ (by decide +kernel), ?_⟩
  by_cases hc : cut = true
  · subst hc
    have hxe : x ≠ Str.ofString "" := fun z => nomatch hx.mp z
    refine ite_yes (by rw [eqD_str, decide_eq_false hxe]; rfl) ⟨by decide, by simp; omega, rs, true, rfl, hok, h13, hy, hn⟩
  · have hc : cut = false := by cases cut <;> simp_all
    subst hc
    have hxe : x = Str.ofString "" := hx.mpr rfl
    refine ite_no (by rw [eqD_str, decide_eq_true hxe]; exact fun z => nomatch z) ⟨rs, false, by unfold rowsD; rw [if_neg (by decide), List.append_nil], hok, h13, hy, hn⟩
end Vl
set_option maxHeartbeats 2000000
local macro_rules | `(tactic| walk_at "vs") => `(tactic| simp only [Vl.aSeq, Vl.aFor_eq, Vl.aIf, Vl.aB, Vl.aBin, Vl.aUn, Vl.aV, Vl.slotW, Vl.gt_z, Vl.gt_s, Vl.aCB, Vl.aCall, Vl.aCons, Vl.aNil, Vl.argW, Vl.dLt_eq, Vl.dLe_eq, Vl.dGt_eq, Vl.dGe_eq, Vl.dI0, Vl.dI, Vl.dAdd, Vl.dSub_eq, Vl.dMul, Vl.dDiv_eq, Vl.dMod_eq, Vl.dPow_eq, Vl.dShl_eq, Vl.dNeg, Vl.dNot, Vl.dIsN, Vl.dNotN, Vl.dEq, Vl.dNe, Vl.dIn, Vl.dIx, Vl.fLen_lst, Vl.fLen_tup, Vl.fLen_ow, Vl.fLen_bw, Vl.fLen_scr, Vl.fLen_str, Vl.fInt_int, Vl.fInt_bl, Vl.fAbs_int, Vl.fMax_int, Vl.fMin_int, Vl.fGcd_int, Vl.fLcm_int, Vl.fList_lst, Vl.fList_tup, Vl.fList_ow, Vl.fList_bw, Vl.fList_scr, Vl.seqC, Vl.lstC, Vl.itemsC, Vl.clW, Vl.W.toD, Vl.M.toD, Vl.clDs, Option.map_some, Option.map_none,
  Vl.aRet, Vl.aRetV, Vl.aRetN, Vl.aNext, Vl.aBreak, Vl.aCont, Vl.aC, Vl.aSet, Vl.aSetC, Vl.slotA, Vl.aDrop, Vl.aAsgG, Vl.agN, Vl.agT, Vl.agCons, Vl.agNil, Vl.iLst, Vl.iTup, Vl.iR1, Vl.iR2, Vl.aTup, Vl.aLst, Vl.aAnd, Vl.aOr, Vl.aNot, Vl.aAndV, Vl.aOrV, Vl.aIfE, Vl.aSl, Vl.aoS, Vl.aoN, Vl.aChain, Vl.aAugAdd, Vl.aAugSub, Vl.aMut, Vl.aMutS, Vl.mAppend, Vl.mPop, Vl.mPopAt, Vl.mReverse, Vl.tyM, Vl.aFrz, Vl.frz, Vl.aSetIx, Vl.aLc, Vl.wipeA, Vl.aYes,
  List.set_cons_zero, List.set_cons_succ, List.length_map, List.length_cons, List.length_nil, decide_eq_true_eq, Bool.not_true, Bool.not_false, if_true, if_false, Bool.false_eq_true, Vl.okD_int, Vl.okD_bl, Vl.okD_non, Vl.eqD_int, Vl.eqD_bl, Vl.eqD_non, true_and, and_true, Vl.snoc_int, Vl.aIsi, Vl.isi_bl_bool, Vl.isi_bl_int, Vl.isi_int_int, Vl.isi_int_bool, Vl.isi_non_int, Vl.isi_non_bool, Vl.isi_lst_list, Vl.isi_tup_list, Vl.isi_tup_tuple, Vl.isi_non_tuple, Vl.isi_non_list, Vl.isi_str_str, Vl.isi_lst_bool, Vl.isi_str_bool, Vl.isi_tup_bool, Vl.ixD_0, Vl.ixD_1, Vl.ixD_2, Vl.ixD_3, Vl.ixD_4, Vl.ixD_5, Vl.ixD_6, Vl.ixD_7, Vl.ixD_8, Vl.ixD_9, Vl.ixD_10, Vl.ixD_11, Vl.aFld, Vl.aMeth, Vl.aMake, Vl.aMakeK, Vl.mInsert, Vl.aIndex, Vl.fMax1_eq, Vl.fSorted_eq, List.getElem?_cons_zero, List.getElem?_cons_succ, List.cons_append, List.nil_append, Vl.aPar, Vl.aIsO, Vl.dNeS, Vl.aDNew, Vl.dEqO, Vl.aDGet, Vl.aDIx, Vl.dInD, Vl.kidsW, Vl.keyO, Vl.keyF, Vl.keysF, Vl.getK_map, Vl.M.toDs, Vl.refM, Vl.bwM, Vl.owM, Vl.aMakeO, Vl.aSetX, Vl.aSetCX, Vl.aDropX, Vl.aRetX, Vl.aAsgGX, Vl.aIfX, Vl.xP, Vl.tP, Vl.aBX, Vl.aAndX, Vl.aOrX, Vl.aNotX, Vl.aBinX, Vl.aCallL, Vl.aMethL, Vl.alHere, Vl.alCons, Vl.setP, Vl.apV, Vl.apFld, Vl.apIx, Vl.apKey, Vl.aMutP, Vl.aFSet, Vl.aDPutP, Vl.kidW, Vl.putM, Vl.dctM, Vl.aLstO, Vl.aoCons, Vl.aoNil, Vl.aDisp, Vl.dispGo, Vl.iLstG, Vl.xMut, Vl.fLenD, Vl.one, Vl.mRemove, Vl.apW, Vl.allW_nil, Vl.allW_cons, Vl.anHere, Vl.anCons, Vl.aCallN, Vl.aCallF, Vl.clAlls, Vl.clAll, Vl.flatW, Vl.flatD, Vl.flatDs, Bool.and_true, Bool.true_and, Vl.aDNewM, Vl.fSortT_eq, Vl.fSortDT_eq, Vl.fMinD_eq, Vl.fMaxD_eq, Vl.aForX_eq, Vl.aCallK, Vl.aCallD, Vl.xSortPop, Vl.dEqS, Vl.aSlT, Vl.aClE, Vl.aLenSet, Vl.aMakeD])
namespace Vl
open PySem PySem.Spec PyProof.Rows L2
def c__law_numbers : Ct := fun ws Q => ∃ (t : Str) (lo hi : Int), ws = [.cl (.str t), .cl (.int lo), .cl (.int hi)] ∧ RowS t ∧ ((∀ x ∈ parts cm t, NumOk x lo hi) → Q (.cl (.lst (((parts cm t).map wordV).map .int)))) ∧ ((¬ ∀ x ∈ parts cm t, NumOk x lo hi) → Q (.cl .non))
theorem l__law_numbers : ∀ ws P, c__law_numbers ws P → ws.length = 3 := by rintro ws P ⟨t, lo, hi, rfl, _⟩; rfl
open Classical in
noncomputable def numD (lo hi : Int) (w : Str) : D := if NumOk w lo hi then .int (wordV w) else .non
/-- _law_numbers: slots 0=_law_text 1=_law_low 2=_law_high 3=_law_numbers_here 4=_law_word_here -/
def a__law_numbers : AS :=
  aSeq (aSetC 3 (aLc (iLstG (aSplit (aV 0) (aCons (aC (.str ",")) (aNil)))) (agN 4) (aYes) (aCall c__law_number (aCons (aV 4) (aCons (aV 1) (aCons (aV 2) (aNil))))) [4])) (aSeq (aIf (aB (aBin (dIn false) (aC .non) (aV 3))) (aRet (aC .non)) (aNext)) (aRetV 3))
theorem w__law_numbers : ∀ ws P, c__law_numbers ws P → a__law_numbers { nx := fun _ => P (.cl .non), rt := fun w _ => P w } (startA 5 ws) := by
  rintro ws P ⟨t, lo, hi, rfl, ht, hy, hn⟩
  show a__law_numbers _ [.im (.str t), .im (.int lo), .im (.int hi), .non, .non]
  unfold a__law_numbers
  have lt := ht.len
  have c1 := parts_cnt (c := cm) (by decide +kernel) t
  walk_at "vs"
  simp only [aSplit]
  walk_at "vs"
  rw [split_cm]
  refine ⟨rfl, by omega, lc_all D.str (numD lo hi) (parts cm t) (by omega) (fun w hw K hK => ?_) ?_⟩
  · have rw' := ht.part (c := cm) hw
    walk_at "vs"
    exact ⟨w, lo, hi, rfl, rw'.ok, by have := rw'.len; omega, fun z => by have := hK; unfold numD at this; rw [if_pos z] at this; exact this, fun z => by have := hK; unfold numD at this; rw [if_neg z] at this; exact this⟩
  walk_at "vs"
  refine ⟨okD_map (f := numD lo hi) (n := 0) (fun w => by unfold numD; split; exact dep_int _ _; exact dep_non _) (by decide), ?_⟩
  by_cases h : ∀ x ∈ parts cm t, NumOk x lo hi
  · have e : (parts cm t).map (numD lo hi) = ((parts cm t).map wordV).map D.int := by
      rw [List.map_map]
      exact List.map_congr_left fun x hx => by unfold numD; rw [if_pos (h x hx)]; rfl
    rw [e]
    refine ite_no ?_ (hy h)
    unfold inD
    rw [List.any_map]
    intro z
    obtain ⟨x, _, hx⟩ := List.any_eq_true.mp z
    cases hx
  · refine ite_yes ?_ (hn h)
    unfold inD
    rw [List.any_map]
    refine List.any_eq_true.mpr ?_
    apply Classical.byContradiction
    intro z
    refine h fun x hx => ?_
    apply Classical.byContradiction
    intro q
    exact z ⟨x, hx, by show eqD _ _ = true; unfold numD; rw [if_neg q]; rfl⟩
/-- what the law's loop asks of a path at k -/
def StepOk (N : NetV) (r : List Int) (k : Nat) : Prop := r.getD k 0 ∉ r.take k ∧ (hostN N (r.getD k 0) = true ↔ k = 0 ∨ k + 1 = r.length) ∧ (0 < k → joinN N (r.getD (k - 1) 0) (r.getD k 0) ≠ none)
theorem path_steps {N : NetV} {r : List Int} (h2 : 2 ≤ r.length) (h : ∀ j, j < r.length → StepOk N r j) : PathP N r := by
  refine ⟨h2, List.pairwise_iff_getElem.mpr fun i j hi hj hij e => (h j hj).1 ?_, fun k hk => (h k hk).2.1, fun k hk => ?_⟩
  · rw [List.mem_take_iff_getElem]
    exact ⟨i, by omega, by rw [e, List.getD_eq_getElem?_getD, List.getElem?_eq_getElem hj]; rfl⟩
  · have := (h (k + 1) hk).2.2 (by omega)
    exact this
theorem steps_path {N : NetV} {r : List Int} (h : PathP N r) {k : Nat} (hk : k < r.length) : StepOk N r k := by
  refine ⟨fun z => ?_, h.2.2.1 k hk, fun z => ?_⟩
  · obtain ⟨i, hi, e⟩ := List.mem_take_iff_getElem.mp z
    rw [List.getD_eq_getElem?_getD, List.getElem?_eq_getElem hk] at e
    exact List.pairwise_iff_getElem.mp h.2.1 i k (by omega) hk (by omega) e
  · have := h.2.2.2 (k - 1) (by omega)
    rw [show k - 1 + 1 = k by omega] at this
    exact this
def c__law_stream : Ct := fun ws Q => ∃ (wk wl : W) (N : NetV) (r : Str), ws = [.cl (.str r), wk, wl] ∧ RdB wk (N.ks.map kD) ∧ RdB wl (N.ls.map lnD) ∧ RowS r ∧ N.ks.length ≤ 100 ∧ (∀ e, StmIs N r e → Q (.cl (entD e))) ∧ ((∀ e, ¬ StmIs N r e) → Q (.cl .non))
theorem l__law_stream : ∀ ws P, c__law_stream ws P → ws.length = 3 := by rintro ws P ⟨wk, wl, N, r, rfl, _⟩; rfl
/-- _law_stream: slots 0=_law_row 1=_law_kinds 2=_law_lines 3=_law_words 4=_law_period 5=_law_length 6=_law_limit 7=_law_path 8=_law_offsets 9=_law_k -/
def a__law_stream : AS :=
  aSeq (aSetC 3 (aSplit (aV 0) (aCons (aC (.str " ")) (aNil)))) (aSeq (aIf (aOr (aB (aBin (dNe) (aCB fLen1 (aCons (aV 3) (aNil))) (aC (.int 6)))) (aB (aBin (dNe) (aBin dIx (aV 3) (aC (.int 0))) (aC (.str "stream"))))) (aRet (aC .non)) (aNext)) (aSeq (aSetC 4 (aCall c__law_number (aCons (aBin dIx (aV 3) (aC (.int 1))) (aCons (aC (.int 1)) (aCons (aC (.int 60)) (aNil)))))) (aSeq (aIf (aB (aBin (dIsN) (aV 4) (aC .non))) (aRet (aC .non)) (aNext)) (aSeq (aSetC 5 (aCall c__law_number (aCons (aBin dIx (aV 3) (aC (.int 2))) (aCons (aC (.int 1)) (aCons (aV 4) (aNil)))))) (aSeq (aSetC 6 (aCall c__law_number (aCons (aBin dIx (aV 3) (aC (.int 3))) (aCons (aC (.int 1)) (aCons (aC (.int 300)) (aNil)))))) (aSeq (aSetC 7 (aCall c__law_numbers (aCons (aBin dIx (aV 3) (aC (.int 4))) (aCons (aC (.int 0)) (aCons (aBin dSub (aCB fLen1 (aCons (aV 1) (aNil))) (aC (.int 1))) (aNil)))))) (aSeq (aSetC 8 (aCall c__law_numbers (aCons (aBin dIx (aV 3) (aC (.int 5))) (aCons (aC (.int 0)) (aCons (aC (.int 500)) (aNil)))))) (aSeq (aIf (aOr (aB (aBin (dIsN) (aV 5) (aC .non))) (aOr (aB (aBin (dIsN) (aV 6) (aC .non))) (aOr (aB (aBin (dIsN) (aV 7) (aC .non))) (aOr (aB (aBin (dIsN) (aV 8) (aC .non))) (aB (aBin (dNe) (aCB fLen1 (aCons (aV 8) (aNil))) (aBin dSub (aCB fLen1 (aCons (aV 7) (aNil))) (aC (.int 1))))))))) (aRet (aC .non)) (aNext)) (aSeq (aFor (iR1 (aCons (aCB fLen1 (aCons (aV 7) (aNil))) (aNil))) (agN 9) (aSeq (aIf (aOr (aB (aBin (dIn false) (aBin dIx (aV 7) (aV 9)) (aSl (aV 7) (aoN) (aoS (aV 9))))) (aB (aBin (dNe) (aBin (dEq) (aBin dIx (aV 1) (aBin dIx (aV 7) (aV 9))) (aC (.str "host"))) (aOrV (aBin (dEq) (aV 9) (aC (.int 0))) (aBin (dEq) (aV 9) (aBin dSub (aCB fLen1 (aCons (aV 7) (aNil))) (aC (.int 1)))))))) (aRet (aC .non)) (aNext)) (aIf (aAnd (aB (aBin (dGt) (aV 9) (aC (.int 0)))) (aNot (aB (aCall c__law_joined (aCons (aV 2) (aCons (aBin dIx (aV 7) (aBin dSub (aV 9) (aC (.int 1)))) (aCons (aBin dIx (aV 7) (aV 9)) (aNil)))))))) (aRet (aC .non)) (aNext)))) (aSeq (aIf (aB (aBin (dLt) (aCB fLen1 (aCons (aV 7) (aNil))) (aC (.int 2)))) (aRet (aC .non)) (aNext)) (aRet (aTup (aCons (aMake 1 c_Stream___init__ (aCons (aV 4) (aCons (aV 5) (aCons (aV 6) (aCons (aV 7) (aNil)))))) (aCons (aV 8) (aNil)))))))))))))))
theorem w__law_stream : ∀ ws P, c__law_stream ws P → a__law_stream { nx := fun _ => P (.cl .non), rt := fun w _ => P w } (startA 10 ws) := by
  rintro ws P ⟨wk, wl, N, r, rfl, hk, hl, hr, hn, hy, hno⟩
  have : startA 10 [.cl (.str r), wk, wl] = [.im (.str r), .bw (.fl (N.ks.map kD)), .bw (.fl (N.ls.map lnD)), .non, .non, .non, .non, .non, .non, .non] := by rcases hk with rfl | rfl <;> rcases hl with rfl | rfl <;> rfl
  rw [this]
  unfold a__law_stream
  walk_at "vs"
  simp only [aSplit]
  walk_at "vs"
  rw [split_sp]
  have rl := hr.len
  refine ⟨rfl, by omega, ?_⟩
  by_cases h6 : ((parts sp r).length : Int) = 6
  · refine ite_no (by rw [decide_eq_true h6]; exact fun z => nomatch z) ?_
    obtain ⟨f, p, l, d, ps, os, e⟩ := six (xs := parts sp r) (by omega)
    have rf : RowS f := hr.part (c := sp) (by rw [e]; simp)
    have rp : RowS p := hr.part (c := sp) (by rw [e]; simp)
    have rl : RowS l := hr.part (c := sp) (by rw [e]; simp)
    have rd : RowS d := hr.part (c := sp) (by rw [e]; simp)
    have rps : RowS ps := hr.part (c := sp) (by rw [e]; simp)
    have ros : RowS os := hr.part (c := sp) (by rw [e]; simp)
    have no : (f = Str.ofString "stream" → NumOk p 1 60 → NumOk l 1 (wordV p) → NumOk d 1 300 → (∀ x ∈ parts cm ps, NumOk x 0 ((N.ks.length : Int) - 1)) → (∀ x ∈ parts cm os, NumOk x 0 500) → PathP N ((parts cm ps).map wordV) → (parts cm os).length + 1 = (parts cm ps).length → False) → P (.cl .non) := fun z => hno fun w ⟨f', p', l', d', ps', os', q, q0, q1, q2, q3, q4, q5, q6, q7, _⟩ => by
      rw [e] at q
      simp only [List.cons.injEq] at q
      obtain ⟨rfl, rfl, rfl, rfl, rfl, rfl, _⟩ := q
      exact z q0 q1 q2 q3 q4 q5 q6 q7
    have lp := rp.len
    have ll := rl.len
    have ld := rd.len
    rw [e]
    simp only [List.map_cons, List.map_nil]
    rw [show ixD [D.str f, D.str p, D.str l, D.str d, D.str ps, D.str os] 0 = some (.str f) from rfl, show ixD [D.str f, D.str p, D.str l, D.str d, D.str ps, D.str os] 1 = some (.str p) from rfl]
    simp only []
    refine ⟨okD_str _ rf.ok, okD_str _ (by decide +kernel), ?_⟩
    by_cases hf : f = Str.ofString "stream"
    case neg => exact ite_yes (by rw [eqD_str, decide_eq_false hf]; rfl) (no fun z _ _ _ _ _ _ _ => hf z)
    refine ite_no (by rw [eqD_str, decide_eq_true hf]; exact fun z => nomatch z) ⟨p, 1, 60, rfl, rp.ok, by omega, fun np => ?_, fun np => no fun _ z _ _ _ _ _ _ => np z⟩
    rw [show ixD [D.str f, D.str p, D.str l, D.str d, D.str ps, D.str os] 2 = some (.str l) from rfl]
    have no2 : ∀ {x : Prop}, x → x := fun z => z
    simp only []
    refine ⟨l, 1, _, rfl, rl.ok, by omega, fun nl => ?_, fun nl => ?_⟩
    all_goals
      simp only []
      rw [show ixD [D.str f, D.str p, D.str l, D.str d, D.str ps, D.str os] 3 = some (.str d) from rfl]
      simp only []
      refine ⟨d, 1, 300, rfl, rd.ok, by omega, fun nd => ?_, fun nd => ?_⟩
    all_goals
      simp only []
      rw [show ixD [D.str f, D.str p, D.str l, D.str d, D.str ps, D.str os] 4 = some (.str ps) from rfl]
      simp only []
      refine ⟨ps, 0, _, rfl, rps, fun nps => ?_, fun nps => ?_⟩
    all_goals
      simp only []
      rw [show ixD [D.str f, D.str p, D.str l, D.str d, D.str ps, D.str os] 5 = some (.str os) from rfl]
      simp only []
      refine ⟨os, 0, 500, rfl, ros, fun nos => ?_, fun nos => ?_⟩
    all_goals try first
      | exact no fun _ _ z _ _ _ _ _ => nl z
      | exact no fun _ _ _ z _ _ _ _ => nd z
      | exact no fun _ _ _ _ z _ _ _ => nps z
      | exact no fun _ _ _ _ _ z _ _ => nos z
    walk_at "vs"
    by_cases hc : ((parts cm os).length : Int) = ((parts cm ps).length : Int) - 1
    case neg => exact ite_yes (by rw [decide_eq_false hc]; rfl) (no fun _ _ _ _ _ _ _ z => hc (by omega))
    have c1 := parts_cnt (c := cm) (by decide +kernel) ps
    have lps := rps.len
    refine ite_no (by rw [decide_eq_true hc]; exact fun z => nomatch z) ⟨by omega, ?_⟩
    have no2 : ¬ PathP N ((parts cm ps).map wordV) → P (.cl .non) := fun z => no fun _ _ _ _ _ _ y _ => z y
    have yes2 : PathP N ((parts cm ps).map wordV) → P (.cl (entD ⟨⟨wordV p, wordV l, wordV d, (parts cm ps).map wordV⟩, (parts cm os).map wordV⟩)) := fun z => hy _ ⟨f, p, l, d, ps, os, e, hf, np, nl, nd, nps, nos, z, by omega, rfl⟩
    have hinn : ∀ x ∈ (parts cm ps).map wordV, 0 ≤ x ∧ x < (N.ks.length : Int) := fun x hx => by
      obtain ⟨w, hw, rfl⟩ := List.mem_map.mp hx
      obtain ⟨_, h0, h1⟩ := nps w hw
      exact ⟨h0, by omega⟩
    obtain ⟨pa, hpa⟩ : ∃ pa, pa = (parts cm ps).map wordV := ⟨_, rfl⟩
    have hlen : (parts cm ps).length = pa.length := by rw [hpa, List.length_map]
    rw [← hpa] at no2 yes2 hinn
    rw [← hpa, hlen, Int.toNat_natCast]
    refine for_up (fun k δ => (∃ x, δ = [.im (.str r), .bw (.fl (N.ks.map kD)), .bw (.fl (N.ls.map lnD)), .im (.lst [D.str f, D.str p, D.str l, D.str d, D.str ps, D.str os]), .im (.int (wordV p)), .im (.int (wordV l)), .im (.int (wordV d)), .im (.lst (pa.map .int)), .im (.lst (((parts cm os).map wordV).map .int)), x]) ∧ ∀ j, j < k → StepOk N pa j) ⟨⟨_, rfl⟩, fun j hj => absurd hj (by omega)⟩ ?_ ?_
    · rintro k δ hk ⟨⟨x, rfl⟩, hI⟩
      have hat : ixD (pa.map D.int) (0 + (k : Int)) = some (.int (pa.getD k 0)) := by rw [Int.zero_add]; exact ixD_map D.int (by omega) (by rw [Int.toNat_natCast]; exact getD_at hk)
      have hin := hinn _ (List.mem_of_getElem? (getD_at hk))
      have ek : (0 : Int) + (k : Int) = k := Int.zero_add _
      rw [ek] at hat
      walk_at "vs"
      rw [ek, hat]
      simp only []
      rw [cut_take]
      refine ⟨rfl, okD_il _, ?_⟩
      by_cases h1 : pa.getD k 0 ∈ pa.take k
      · exact ite_yes (by rw [inD_ints]; exact decide_eq_true h1) (no2 fun z => (steps_path z hk).1 h1)
      refine ite_no (by rw [inD_ints, decide_eq_false h1]; exact fun z => nomatch z) ?_
      rw [ixD_kD hin.1 hin.2]
      simp only []
      refine ⟨okD_k _, okD_k true, ?_⟩
      have e2 : eqD (kD (N.ks.getD (pa.getD k 0).toNat false)) (.str (Str.ofString "host")) = hostN N (pa.getD k 0) := eqD_kh _
      rw [e2]
      have bad : ¬ (hostN N (pa.getD k 0) = true ↔ k = 0 ∨ k + 1 = pa.length) → P (.cl .non) := fun q => no2 fun z => q (steps_path z hk).2.1
      by_cases hz : k = 0
      case' pos =>
        rw [show decide ((k : Int) = 0) = true from decide_eq_true (by omega)]
        simp only []
        cases hh : hostN N (pa.getD k 0)
        case' false => exact ite_yes rfl (bad fun z => by have := z.mpr (.inl hz); rw [hh] at this; cases this)
        refine ite_no (fun z => nomatch z) ?_
        have hst : hostN N (pa.getD k 0) = true ↔ k = 0 ∨ k + 1 = pa.length := ⟨fun _ => .inl hz, fun _ => hh⟩
      case' neg =>
        rw [show decide ((k : Int) = 0) = false from decide_eq_false (by omega)]
        simp only []
        by_cases hst : hostN N (pa.getD k 0) = true ↔ k = 0 ∨ k + 1 = pa.length
        case' neg =>
          refine ite_yes ?_ (bad hst)
          by_cases hl1 : (k : Int) = (pa.length : Int) - 1
          · rw [decide_eq_true hl1]
            cases hh : hostN N (pa.getD k 0)
            · rfl
            · exact absurd ⟨fun _ => .inr (by omega), fun _ => hh⟩ hst
          · rw [decide_eq_false hl1]
            cases hh : hostN N (pa.getD k 0)
            · exact absurd ⟨fun z => absurd z (by rw [hh]; exact fun y => nomatch y), fun z => absurd z (by omega)⟩ hst
            · rfl
        case' pos =>
          refine ite_no ?_ ?_
          case' refine_1 =>
            by_cases hl1 : (k : Int) = (pa.length : Int) - 1
            · rw [decide_eq_true hl1, hst.mpr (.inr (by omega))]
              exact fun z => nomatch z
            · rw [decide_eq_false hl1]
              cases hh : hostN N (pa.getD k 0)
              · exact fun z => nomatch z
              · have := hst.mp hh
                omega
      all_goals
        by_cases h0 : 0 < k
        case neg => exact ite_no (by omega) ⟨⟨_, rfl⟩, fun j hj => (Nat.lt_or_eq_of_le (Nat.le_of_lt_succ hj)).elim (hI j) fun z => z ▸ ⟨h1, hst, fun y => absurd y h0⟩⟩
        refine ite_yes (by omega) ?_
        have hat2 : ixD (pa.map D.int) ((k : Int) - 1) = some (.int (pa.getD (k - 1) 0)) := ixD_map D.int (by omega) (by rw [show ((k : Int) - 1).toNat = k - 1 by omega]; exact getD_at (by omega))
        rw [hat2]
        simp only []
        refine ⟨_, N.ls, _, _, rfl, .inl rfl, fun hj => ite_no (fun z => nomatch z) ⟨⟨_, rfl⟩, fun j hj2 => (Nat.lt_or_eq_of_le (Nat.le_of_lt_succ hj2)).elim (hI j) fun z => z ▸ ⟨h1, hst, fun _ => hj⟩⟩, fun hj => ite_yes rfl (no2 fun z => (steps_path z hk).2.2 h0 hj)⟩
    · rintro δ ⟨⟨x, rfl⟩, hI⟩
      walk_at "vs"
      by_cases h2 : (pa.length : Int) < 2
      · exact ite_yes h2 (no2 fun z => by have := z.1; omega)
      · refine ite_no h2 ⟨_, _, _, _, _, rfl, .inl rfl, by decide, ?_⟩
        exact yes2 (path_steps (by omega) hI)
  · exact ite_yes (by rw [decide_eq_false h6]; rfl) (hno fun w ⟨f, p, l, d, ps, os, q, _⟩ => h6 (by rw [q]; rfl))
end Vl
set_option maxHeartbeats 2000000
local macro_rules | `(tactic| walk_at "vs") => `(tactic| simp only [Vl.aSeq, Vl.aFor_eq, Vl.aIf, Vl.aB, Vl.aBin, Vl.aUn, Vl.aV, Vl.slotW, Vl.gt_z, Vl.gt_s, Vl.aCB, Vl.aCall, Vl.aCons, Vl.aNil, Vl.argW, Vl.dLt_eq, Vl.dLe_eq, Vl.dGt_eq, Vl.dGe_eq, Vl.dI0, Vl.dI, Vl.dAdd, Vl.dSub_eq, Vl.dMul, Vl.dDiv_eq, Vl.dMod_eq, Vl.dPow_eq, Vl.dShl_eq, Vl.dNeg, Vl.dNot, Vl.dIsN, Vl.dNotN, Vl.dEq, Vl.dNe, Vl.dIn, Vl.dIx, Vl.fLen_lst, Vl.fLen_tup, Vl.fLen_ow, Vl.fLen_bw, Vl.fLen_scr, Vl.fLen_str, Vl.fInt_int, Vl.fInt_bl, Vl.fAbs_int, Vl.fMax_int, Vl.fMin_int, Vl.fGcd_int, Vl.fLcm_int, Vl.fList_lst, Vl.fList_tup, Vl.fList_ow, Vl.fList_bw, Vl.fList_scr, Vl.seqC, Vl.lstC, Vl.itemsC, Vl.clW, Vl.W.toD, Vl.M.toD, Vl.clDs, Option.map_some, Option.map_none,
  Vl.aRet, Vl.aRetV, Vl.aRetN, Vl.aNext, Vl.aBreak, Vl.aCont, Vl.aC, Vl.aSet, Vl.aSetC, Vl.slotA, Vl.aDrop, Vl.aAsgG, Vl.agN, Vl.agT, Vl.agCons, Vl.agNil, Vl.iLst, Vl.iTup, Vl.iR1, Vl.iR2, Vl.aTup, Vl.aLst, Vl.aAnd, Vl.aOr, Vl.aNot, Vl.aAndV, Vl.aOrV, Vl.aIfE, Vl.aSl, Vl.aoS, Vl.aoN, Vl.aChain, Vl.aAugAdd, Vl.aAugSub, Vl.aMut, Vl.aMutS, Vl.mAppend, Vl.mPop, Vl.mPopAt, Vl.mReverse, Vl.tyM, Vl.aFrz, Vl.frz, Vl.aSetIx, Vl.aLc, Vl.wipeA, Vl.aYes,
  List.set_cons_zero, List.set_cons_succ, List.length_map, List.length_cons, List.length_nil, decide_eq_true_eq, Bool.not_true, Bool.not_false, if_true, if_false, Bool.false_eq_true, Vl.okD_int, Vl.okD_bl, Vl.okD_non, Vl.eqD_int, Vl.eqD_bl, Vl.eqD_non, true_and, and_true, Vl.snoc_int, Vl.aIsi, Vl.isi_bl_bool, Vl.isi_bl_int, Vl.isi_int_int, Vl.isi_int_bool, Vl.isi_non_int, Vl.isi_non_bool, Vl.isi_lst_list, Vl.isi_tup_list, Vl.isi_tup_tuple, Vl.isi_non_tuple, Vl.isi_non_list, Vl.isi_str_str, Vl.isi_lst_bool, Vl.isi_str_bool, Vl.isi_tup_bool, Vl.ixD_0, Vl.ixD_1, Vl.ixD_2, Vl.ixD_3, Vl.ixD_4, Vl.ixD_5, Vl.ixD_6, Vl.ixD_7, Vl.ixD_8, Vl.ixD_9, Vl.ixD_10, Vl.ixD_11, Vl.aFld, Vl.aMeth, Vl.aMake, Vl.aMakeK, Vl.mInsert, Vl.aIndex, Vl.fMax1_eq, Vl.fSorted_eq, List.getElem?_cons_zero, List.getElem?_cons_succ, List.cons_append, List.nil_append, Vl.aPar, Vl.aIsO, Vl.dNeS, Vl.aDNew, Vl.dEqO, Vl.aDGet, Vl.aDIx, Vl.dInD, Vl.kidsW, Vl.keyO, Vl.keyF, Vl.keysF, Vl.getK_map, Vl.M.toDs, Vl.refM, Vl.bwM, Vl.owM, Vl.aMakeO, Vl.aSetX, Vl.aSetCX, Vl.aDropX, Vl.aRetX, Vl.aAsgGX, Vl.aIfX, Vl.xP, Vl.tP, Vl.aBX, Vl.aAndX, Vl.aOrX, Vl.aNotX, Vl.aBinX, Vl.aCallL, Vl.aMethL, Vl.alHere, Vl.alCons, Vl.setP, Vl.apV, Vl.apFld, Vl.apIx, Vl.apKey, Vl.aMutP, Vl.aFSet, Vl.aDPutP, Vl.kidW, Vl.putM, Vl.dctM, Vl.aLstO, Vl.aoCons, Vl.aoNil, Vl.aDisp, Vl.dispGo, Vl.iLstG, Vl.xMut, Vl.fLenD, Vl.one, Vl.mRemove, Vl.apW, Vl.allW_nil, Vl.allW_cons, Vl.anHere, Vl.anCons, Vl.aCallN, Vl.aCallF, Vl.clAlls, Vl.clAll, Vl.flatW, Vl.flatD, Vl.flatDs, Bool.and_true, Bool.true_and, Vl.aDNewM, Vl.fSortT_eq, Vl.fSortDT_eq, Vl.fMinD_eq, Vl.fMaxD_eq, Vl.aForX_eq, Vl.aCallK, Vl.aCallD, Vl.xSortPop, Vl.dEqS, Vl.aSlT, Vl.aClE, Vl.aLenSet, Vl.aMakeD])
namespace Vl
open PySem PySem.Spec PyProof.Rows L2
def dueD : Out → D
  | .bad p => .tup [.int p, .non]
  | .good N es => .tup [.non, .tup [.int N.pr, .int N.er, .lst (N.ks.map kD), .lst (N.ls.map lnD), .lst (es.map entD)]]
structure DueI (r : Str) (rs : List Str) (pr er : Int) (k : Nat) (st : Int) (ks : List Bool) (ls : List Ln) (es : List EntV) : Prop where
  ln : ls.length ≤ k
  le : es.length ≤ k
  h : (st = 0 ∧ k ≤ (kpre rs).length ∧ ks = (kpre rs).take k ∧ ls = [] ∧ es = []) ∨ (ks = kpre rs ∧ ks ≠ [] ∧ ((st = 1 ∧ es = [] ∧ rdAll (r :: rs) = rdLn ⟨ks, ls, pr, er⟩ (1 + (k : Int)) (rs.drop k)) ∨ (st = 2 ∧ rdAll (r :: rs) = rdSt ⟨ks, ls, pr, er⟩ es (1 + (k : Int)) (rs.drop k))))
def c__law_due : Ct := fun ws Q => ∃ rs : List Str, ws = [.cl (.lst (rs.map .str))] ∧ (∀ x ∈ rs, RowS x) ∧ rs.length ≤ 13 ∧ Q (.cl (dueD (rdAll rs)))
theorem l__law_due : ∀ ws P, c__law_due ws P → ws.length = 1 := by rintro ws P ⟨rs, rfl, _⟩; rfl
/-- _law_due: slots 0=_law_rows_here 1=_law_words 2=_law_ticks 3=_law_bound 4=_law_kinds 5=_law_lines 6=_law_plan 7=_law_stage 8=_law_at 9=_law_word_here 10=_law_line_here 11=_law_entry -/
def a__law_due : AS :=
  aSeq (aIf (aB (aBin (dEq) (aCB fLen1 (aCons (aV 0) (aNil))) (aC (.int 0)))) (aRet (aTup (aCons (aC (.int 0)) (aCons (aC .non) (aNil))))) (aNext)) (aSeq (aSetC 1 (aSplit (aBin dIx (aV 0) (aC (.int 0))) (aCons (aC (.str " ")) (aNil)))) (aSeq (aIf (aOr (aB (aBin (dNe) (aCB fLen1 (aCons (aV 1) (aNil))) (aC (.int 3)))) (aB (aBin (dNe) (aBin dIx (aV 1) (aC (.int 0))) (aC (.str "net"))))) (aRet (aTup (aCons (aC (.int 0)) (aCons (aC .non) (aNil))))) (aNext)) (aSeq (aSetC 2 (aCall c__law_number (aCons (aBin dIx (aV 1) (aC (.int 1))) (aCons (aC (.int 0)) (aCons (aC (.int 10)) (aNil)))))) (aSeq (aSetC 3 (aCall c__law_number (aCons (aBin dIx (aV 1) (aC (.int 2))) (aCons (aC (.int 0)) (aCons (aC (.int 5)) (aNil)))))) (aSeq (aIf (aOr (aB (aBin (dIsN) (aV 2) (aC .non))) (aB (aBin (dIsN) (aV 3) (aC .non)))) (aRet (aTup (aCons (aC (.int 0)) (aCons (aC .non) (aNil))))) (aNext)) (aSeq (aSet 4 (aLst (aNil))) (aSeq (aSet 5 (aLst (aNil))) (aSeq (aSet 6 (aLst (aNil))) (aSeq (aSetC 7 (aC (.int 0))) (aSeq (aFor (iR2 (aCons (aC (.int 1)) (aCons (aCB fLen1 (aCons (aV 0) (aNil))) (aNil)))) (agN 8) (aSeq (aSetC 9 (aBin dIx (aSplit (aBin dIx (aV 0) (aV 8)) (aCons (aC (.str " ")) (aNil))) (aC (.int 0)))) (aIf (aAnd (aB (aBin (dEq) (aV 7) (aC (.int 0)))) (aB (aBin (dIn false) (aBin dIx (aV 0) (aV 8)) (aLst (aCons (aC (.str "host")) (aCons (aC (.str "switch")) (aNil))))))) (aMut "list" 4 mAppend (aCons (aBin dIx (aV 0) (aV 8)) (aNil))) (aIf (aB (aBin (dEq) (aCB fLen1 (aCons (aV 4) (aNil))) (aC (.int 0)))) (aRet (aTup (aCons (aV 8) (aCons (aC .non) (aNil))))) (aIf (aAnd (aB (aBin (dLe) (aV 7) (aC (.int 1)))) (aB (aBin (dEq) (aV 9) (aC (.str "line"))))) (aSeq (aSetC 7 (aC (.int 1))) (aSeq (aSetC 10 (aCall c__law_line (aCons (aBin dIx (aV 0) (aV 8)) (aCons (aV 4) (aCons (aV 5) (aNil)))))) (aSeq (aIf (aB (aBin (dIsN) (aV 10) (aC .non))) (aRet (aTup (aCons (aV 8) (aCons (aC .non) (aNil))))) (aNext)) (aMut "list" 5 mAppend (aCons (aV 10) (aNil)))))) (aSeq (aSetC 7 (aC (.int 2))) (aSeq (aSetC 11 (aCall c__law_stream (aCons (aBin dIx (aV 0) (aV 8)) (aCons (aV 4) (aCons (aV 5) (aNil)))))) (aSeq (aIf (aB (aBin (dIsN) (aV 11) (aC .non))) (aRet (aTup (aCons (aV 8) (aCons (aC .non) (aNil))))) (aNext)) (aMut "list" 6 mAppend (aCons (aV 11) (aNil))))))))))) (aSeq (aIf (aB (aBin (dEq) (aCB fLen1 (aCons (aV 4) (aNil))) (aC (.int 0)))) (aRet (aTup (aCons (aC (.int 1)) (aCons (aC .non) (aNil))))) (aNext)) (aFrz 6 (aFrz 5 (aFrz 4 (aRet (aTup (aCons (aC .non) (aCons (aTup (aCons (aV 2) (aCons (aV 3) (aCons (aV 4) (aCons (aV 5) (aCons (aV 6) (aNil))))))) (aNil)))))))))))))))))))
theorem w__law_due : ∀ ws P, c__law_due ws P → a__law_due { nx := fun _ => P (.cl .non), rt := fun w _ => P w } (startA 12 ws) := by
  rintro ws P ⟨rs, rfl, hok, hl, hQ⟩
  show a__law_due _ [.im (.lst (rs.map .str)), .non, .non, .non, .non, .non, .non, .non, .non, .non, .non, .non]
  unfold a__law_due
  walk_at "vs"
  cases rs with
  | nil =>
    rw [rdAll] at hQ
    exact ite_yes rfl ⟨by decide, hQ⟩
  | cons r rs =>
    have hr := hok r List.mem_cons_self
    have lr := hr.len
    have b0 : ¬ HdIs r → P (.cl (.tup [.int 0, .non])) := fun z => by
      rw [rdAll, if_neg z] at hQ
      exact hQ
    refine ite_no (by simp; omega) ?_
    simp only [aSplit]
    walk_at "vs"
    rw [show ixD (List.map D.str (r :: rs)) 0 = some (.str r) from rfl]
    simp only []
    rw [split_sp]
    refine ⟨rfl, by omega, ?_⟩
    by_cases h3 : ((parts sp r).length : Int) = 3
    case neg => exact ite_yes (by rw [decide_eq_false h3]; rfl) ⟨by decide, b0 fun ⟨f, a, b, e, _⟩ => h3 (by rw [e]; rfl)⟩
    refine ite_no (by rw [decide_eq_true h3]; exact fun z => nomatch z) ?_
    obtain ⟨f, a, b, e⟩ := three (r := r) h3
    have rf : RowS f := hr.part (c := sp) (by rw [e]; simp)
    have ra : RowS a := hr.part (c := sp) (by rw [e]; simp)
    have rb : RowS b := hr.part (c := sp) (by rw [e]; simp)
    have la := ra.len
    have lb := rb.len
    have uniq : HdIs r → f = Str.ofString "net" ∧ NumOk a 0 10 ∧ NumOk b 0 5 := fun ⟨f', a', b', q, q0, q1, q2⟩ => by
      rw [e] at q
      simp only [List.cons.injEq] at q
      obtain ⟨rfl, rfl, rfl, _⟩ := q
      exact ⟨q0, q1, q2⟩
    rw [e]
    simp only [List.map_cons, List.map_nil]
    rw [show ixD [D.str f, D.str a, D.str b] 0 = some (.str f) from rfl, show ixD [D.str f, D.str a, D.str b] 1 = some (.str a) from rfl, show ixD [D.str f, D.str a, D.str b] 2 = some (.str b) from rfl]
    simp only []
    refine ⟨okD_str _ rf.ok, okD_str _ (by decide +kernel), ?_⟩
    by_cases hf : f = Str.ofString "net"
    case neg => exact ite_yes (by rw [eqD_str, decide_eq_false hf]; rfl) ⟨by decide, b0 fun z => hf (uniq z).1⟩
    refine ite_no (by rw [eqD_str, decide_eq_true hf]; exact fun z => nomatch z) ⟨a, 0, 10, rfl, ra.ok, by omega, fun na => ?_, fun na => ?_⟩
    all_goals
      simp only []
      refine ⟨b, 0, 5, rfl, rb.ok, by omega, fun nb => ?_, fun nb => ?_⟩
    all_goals try first
      | exact ⟨by decide, b0 fun z => na (uniq z).2.1⟩
      | exact ⟨by decide, b0 fun z => nb (uniq z).2.2⟩
    have hh : HdIs r := ⟨f, a, b, e, hf, na, nb⟩
    have eP : hdP r = wordV a := by unfold hdP; rw [e]; rfl
    have eE : hdE r = wordV b := by unfold hdE; rw [e]; rfl
    have hkl := kpre_len rs
    have hA : rdAll (r :: rs) = if kpre rs = [] then .bad 1 else rdLn ⟨kpre rs, [], wordV a, wordV b⟩ (1 + ((kpre rs).length : Int)) (rs.drop (kpre rs).length) := by
      rw [rdAll, if_pos hh, eP, eE]
    walk_at "vs"
    rw [show (((rs.length + 1 : Nat) : Int) - 1).toNat = rs.length by omega]
    have l12 : rs.length + 1 ≤ 13 := hl
    refine ⟨by decide, by decide, by decide, ⟨by decide, by decide, by omega, by omega⟩, ?_⟩
    refine for_up (fun k δ => ∃ (st : Int) (ks : List Bool) (ls : List Ln) (es : List EntV) (x8 x9 x10 x11 : AV), δ = [.im (.lst (.str r :: rs.map .str)), .im (.lst [.str f, .str a, .str b]), .im (.int (wordV a)), .im (.int (wordV b)), .ow false (.fl (ks.map kD)), .ow false (.fl (ls.map lnD)), .ow false (.fl (es.map entD)), .im (.int st), x8, x9, x10, x11] ∧ DueI r rs (wordV a) (wordV b) k st ks ls es) ⟨0, [], [], [], _, _, _, _, rfl, Nat.le_refl _, Nat.le_refl _, .inl ⟨rfl, Nat.zero_le _, rfl, rfl, rfl⟩⟩ ?_ ?_
    · rintro k δ hk ⟨st, ks, ls, es, x8, x9, x10, x11, rfl, hI⟩
      obtain ⟨x, hx⟩ : ∃ x, rs[k]? = some x := ⟨_, List.getElem?_eq_getElem hk⟩
      have rx : RowS x := hok x (List.mem_cons_of_mem _ (List.mem_of_getElem? hx))
      have lx := rx.len
      have hat : ixD (.str r :: rs.map D.str) (1 + (k : Int)) = some (.str x) := by
        unfold ixD
        rw [if_pos (by omega), show (1 + (k : Int)).toNat = k + 1 by omega, List.getElem?_cons_succ, List.getElem?_map, hx]
        rfl
      have dr : rs.drop k = x :: rs.drop (k + 1) := by
        rw [List.drop_eq_getElem_cons hk]
        rw [List.getElem?_eq_getElem hk] at hx
        rw [Option.some.inj hx]
      obtain ⟨y, ys, hys⟩ := List.exists_cons_of_ne_nil (sp_ne x)
      have oky := okD_str _ ((part_ok (c := sp) (r := x) (p := y) (by rw [hys]; exact List.mem_cons_self)).str rx.ok)
      have okk : okD (D.lst [D.str (Str.ofString "host"), D.str (Str.ofString "switch")]) = true := by decide +kernel
      walk_at "vs"
      simp only [aSplit]
      walk_at "vs"
      rw [hat]
      simp only []
      rw [split_sp]
      refine ⟨rfl, by omega, ?_⟩
      rw [hys, show ixD (List.map D.str (y :: ys)) 0 = some (.str y) from rfl]
      simp only []
      have okl : okD (D.str (Str.ofString "line")) = true := okD_str _ (by decide +kernel)
      obtain ⟨hln, hle, hI⟩ := hI
      have hbad : rdAll (r :: rs) = .bad (1 + (k : Int)) → P (.cl (.tup [.int (1 + (k : Int)), .non])) := fun q => by
        rw [q] at hQ
        exact hQ
      have ei : (1 : Int) + ((k + 1 : Nat) : Int) = 1 + (k : Int) + 1 := by omega
      have common : ∀ {G : Prop}, ks = kpre rs → ks ≠ [] → (ks ≠ [] → ks = kpre rs → ¬ ((ks.length : Int) = 0) → ks.length ≤ 100 → G) → G := fun h1 h2 g => g h2 h1 (by have := List.length_pos_iff.mpr h2; omega) (by rw [h1]; omega)
      rcases hI with ⟨rfl, hk0, hks, rfl, rfl⟩ | ⟨hks, hne, ⟨rfl, rfl, hI⟩ | ⟨rfl, hI⟩⟩
      · refine ite_yes rfl ⟨by decide, okD_str _ rx.ok, okk, ?_⟩
        rcases Nat.lt_or_eq_of_le hk0 with q | q
        case inl =>
          obtain ⟨x', hx', hkx⟩ := kpre_at q
          have : x' = x := by rw [hx] at hx'; exact (Option.some.inj hx').symm
          subst this
          have et : ks.map kD ++ [D.str x'] = ((kpre rs).take (k + 1)).map kD := by
            rw [hks, kOf_D hkx, List.take_succ, List.map_append, List.getD_eq_getElem?_getD, List.getElem?_eq_getElem q]
            rfl
          refine ite_yes (by rw [kOf_D hkx]; cases (kpre rs).getD k false <;> decide +kernel) ⟨by rw [hks, List.length_take]; omega, 0, (kpre rs).take (k + 1), [], [], _, _, _, _, by rw [et], by simp, by simp, .inl ⟨rfl, by omega, rfl, rfl, rfl⟩⟩
        have hkx : kOf x = none := kpre_end (rs := rs) (by rw [← q]; exact hx)
        have hks : ks = kpre rs := by rw [hks, q, List.take_length]
        refine ite_no ?_ ?_
        case refine_1 =>
          unfold inD
          simp only [List.any_cons, List.any_nil, eqD_str, Bool.or_false, Bool.or_eq_true, decide_eq_true_eq]
          unfold kOf at hkx
          rintro (z | z)
          · rw [if_pos z.symm] at hkx; cases hkx
          · rw [if_neg (by rw [← z]; decide +kernel), if_pos z.symm] at hkx; cases hkx
        by_cases hne : ks = []
        case pos =>
          refine ite_yes (by rw [hne]; rfl) ⟨by decide, hbad ?_⟩
          have hke : kpre rs = [] := hks ▸ hne
          rw [hA, if_pos hke, q, hke]
          rfl
        have hI : rdAll (r :: rs) = rdLn ⟨ks, [], wordV a, wordV b⟩ (1 + (k : Int)) (rs.drop k) := by
          rw [hA, if_neg (by rw [← hks]; exact hne), ← hks, q, hks]
        have hcnt : ¬ ((ks.length : Int) = 0) := by have := List.length_pos_iff.mpr hne; omega
        have hk100 : ks.length ≤ 100 := by rw [hks]; omega
        refine ite_no hcnt (ite_yes (by decide) ⟨oky, okl, ?_⟩)
        by_cases hl1 : HeadIs x lineW
        · have hy1 : y = lineW := by unfold HeadIs at hl1; rw [hys] at hl1; exact Option.some.inj hl1
          refine ite_yes (by rw [eqD_str]; exact decide_eq_true hy1) ⟨_, _, ks, _, x, rfl, .inr rfl, .inr rfl, rx, hk100, fun w hw => ?_, fun hno => ?_⟩
          · have ew := hw.eq
            refine ⟨by omega, 1, ks, _ ++ [w], [], _, _, _, _, by rw [List.map_append]; rfl, by simp <;> omega, by simp, .inr ⟨hks, hne, .inl ⟨rfl, rfl, ?_⟩⟩⟩
            rw [hI, dr, rdLn, if_pos hl1, if_pos (ew ▸ hw), ei, ew]
          · refine ⟨by decide, hbad ?_⟩
            rw [hI, dr, rdLn, if_pos hl1, if_neg (hno _)]
        refine ite_no (by rw [eqD_str, decide_eq_false fun z => hl1 (by unfold HeadIs; rw [hys, z]; rfl)]; exact fun z => nomatch z) ?_
        have hS : rdAll (r :: rs) = rdSt ⟨ks, [], wordV a, wordV b⟩ [] (1 + (k : Int)) (rs.drop k) := by rw [hI, dr, rdLn, if_neg hl1]
        refine ⟨_, _, ⟨ks, _, wordV a, wordV b⟩, x, rfl, .inr rfl, .inr rfl, rx, hk100, fun w hw => ?_, fun hno => ?_⟩
        · have ew := hw.eq
          refine ⟨by first | omega | decide, 2, ks, _, [] ++ [w], _, _, _, _, by rw [List.map_append (f := entD)]; rfl, by omega, by simp <;> omega, .inr ⟨hks, hne, .inr ⟨rfl, ?_⟩⟩⟩
          rw [hS, dr, rdSt, if_pos (ew ▸ hw), ei, ew]
        · refine ⟨by decide, hbad ?_⟩
          rw [hS, dr, rdSt, if_neg (hno _)]
      · refine ite_no (by decide) ?_
        have hcnt : ¬ ((ks.length : Int) = 0) := by have := List.length_pos_iff.mpr hne; omega
        have hk100 : ks.length ≤ 100 := by rw [hks]; omega
        refine ite_no hcnt (ite_yes (by decide) ⟨oky, okl, ?_⟩)
        by_cases hl1 : HeadIs x lineW
        · have hy1 : y = lineW := by unfold HeadIs at hl1; rw [hys] at hl1; exact Option.some.inj hl1
          refine ite_yes (by rw [eqD_str]; exact decide_eq_true hy1) ⟨_, _, ks, _, x, rfl, .inr rfl, .inr rfl, rx, hk100, fun w hw => ?_, fun hno => ?_⟩
          · have ew := hw.eq
            refine ⟨by omega, 1, ks, _ ++ [w], [], _, _, _, _, by rw [List.map_append]; rfl, by simp <;> omega, by simp, .inr ⟨hks, hne, .inl ⟨rfl, rfl, ?_⟩⟩⟩
            rw [hI, dr, rdLn, if_pos hl1, if_pos (ew ▸ hw), ei, ew]
          · refine ⟨by decide, hbad ?_⟩
            rw [hI, dr, rdLn, if_pos hl1, if_neg (hno _)]
        refine ite_no (by rw [eqD_str, decide_eq_false fun z => hl1 (by unfold HeadIs; rw [hys, z]; rfl)]; exact fun z => nomatch z) ?_
        have hS : rdAll (r :: rs) = rdSt ⟨ks, ls, wordV a, wordV b⟩ [] (1 + (k : Int)) (rs.drop k) := by rw [hI, dr, rdLn, if_neg hl1]
        refine ⟨_, _, ⟨ks, _, wordV a, wordV b⟩, x, rfl, .inr rfl, .inr rfl, rx, hk100, fun w hw => ?_, fun hno => ?_⟩
        · have ew := hw.eq
          refine ⟨by first | omega | decide, 2, ks, _, [] ++ [w], _, _, _, _, by rw [List.map_append (f := entD)]; rfl, by omega, by simp <;> omega, .inr ⟨hks, hne, .inr ⟨rfl, ?_⟩⟩⟩
          rw [hS, dr, rdSt, if_pos (ew ▸ hw), ei, ew]
        · refine ⟨by decide, hbad ?_⟩
          rw [hS, dr, rdSt, if_neg (hno _)]
      · refine ite_no (by decide) ?_
        have hcnt : ¬ ((ks.length : Int) = 0) := by have := List.length_pos_iff.mpr hne; omega
        have hk100 : ks.length ≤ 100 := by rw [hks]; omega
        refine ite_no hcnt (ite_no (by decide) ?_)
        have hS := hI
        refine ⟨_, _, ⟨ks, _, wordV a, wordV b⟩, x, rfl, .inr rfl, .inr rfl, rx, hk100, fun w hw => ?_, fun hno => ?_⟩
        · have ew := hw.eq
          refine ⟨by first | omega | decide, 2, ks, _, es ++ [w], _, _, _, _, by rw [List.map_append (f := entD)]; rfl, by omega, by simp <;> omega, .inr ⟨hks, hne, .inr ⟨rfl, ?_⟩⟩⟩
          rw [hS, dr, rdSt, if_pos (ew ▸ hw), ei, ew]
        · refine ⟨by decide, hbad ?_⟩
          rw [hS, dr, rdSt, if_neg (hno _)]
    · rintro δ ⟨st, ks, ls, es, x8, x9, x10, x11, rfl, hI⟩
      walk_at "vs"
      have d0 : rs.drop rs.length = [] := List.drop_eq_nil_of_le (Nat.le_refl _)
      have fin : (ks = [] → rdAll (r :: rs) = .bad 1) ∧ (ks ≠ [] → rdAll (r :: rs) = .good ⟨ks, ls, wordV a, wordV b⟩ es) := by
        rcases hI.h with ⟨_, hk0, hks, rfl, rfl⟩ | ⟨hks, hne, ⟨_, rfl, hJ⟩ | ⟨_, hJ⟩⟩
        · have hkk : rs.length = (kpre rs).length := by omega
          have hks : ks = kpre rs := by rw [hks, hkk, List.take_length]
          refine ⟨fun z => ?_, fun z => ?_⟩
          · rw [hA, if_pos (hks ▸ z)]
          · rw [hA, if_neg (hks ▸ z), ← hkk, d0, rdLn, hks]
        · rw [d0, rdLn] at hJ
          exact ⟨fun z => absurd z hne, fun _ => hJ⟩
        · rw [d0, rdSt] at hJ
          exact ⟨fun z => absurd z hne, fun _ => hJ⟩
      by_cases hne : ks = []
      · rw [fin.1 hne] at hQ
        exact ite_yes (by rw [hne]; rfl) ⟨by decide, hQ⟩
      · rw [fin.2 hne] at hQ
        exact ite_no (by have := List.length_pos_iff.mpr hne; omega) ⟨by decide, by decide, hQ⟩
end Vl
set_option maxHeartbeats 2000000
local macro_rules | `(tactic| walk_at "vs") => `(tactic| simp only [Vl.aSeq, Vl.aFor_eq, Vl.aIf, Vl.aB, Vl.aBin, Vl.aUn, Vl.aV, Vl.slotW, Vl.gt_z, Vl.gt_s, Vl.aCB, Vl.aCall, Vl.aCons, Vl.aNil, Vl.argW, Vl.dLt_eq, Vl.dLe_eq, Vl.dGt_eq, Vl.dGe_eq, Vl.dI0, Vl.dI, Vl.dAdd, Vl.dSub_eq, Vl.dMul, Vl.dDiv_eq, Vl.dMod_eq, Vl.dPow_eq, Vl.dShl_eq, Vl.dNeg, Vl.dNot, Vl.dIsN, Vl.dNotN, Vl.dEq, Vl.dNe, Vl.dIn, Vl.dIx, Vl.fLen_lst, Vl.fLen_tup, Vl.fLen_ow, Vl.fLen_bw, Vl.fLen_scr, Vl.fLen_str, Vl.fInt_int, Vl.fInt_bl, Vl.fAbs_int, Vl.fMax_int, Vl.fMin_int, Vl.fGcd_int, Vl.fLcm_int, Vl.fList_lst, Vl.fList_tup, Vl.fList_ow, Vl.fList_bw, Vl.fList_scr, Vl.seqC, Vl.lstC, Vl.itemsC, Vl.clW, Vl.W.toD, Vl.M.toD, Vl.clDs, Option.map_some, Option.map_none,
  Vl.aRet, Vl.aRetV, Vl.aRetN, Vl.aNext, Vl.aBreak, Vl.aCont, Vl.aC, Vl.aSet, Vl.aSetC, Vl.slotA, Vl.aDrop, Vl.aAsgG, Vl.agN, Vl.agT, Vl.agCons, Vl.agNil, Vl.iLst, Vl.iTup, Vl.iR1, Vl.iR2, Vl.aTup, Vl.aLst, Vl.aAnd, Vl.aOr, Vl.aNot, Vl.aAndV, Vl.aOrV, Vl.aIfE, Vl.aSl, Vl.aoS, Vl.aoN, Vl.aChain, Vl.aAugAdd, Vl.aAugSub, Vl.aMut, Vl.aMutS, Vl.mAppend, Vl.mPop, Vl.mPopAt, Vl.mReverse, Vl.tyM, Vl.aFrz, Vl.frz, Vl.aSetIx, Vl.aLc, Vl.wipeA, Vl.aYes,
  List.set_cons_zero, List.set_cons_succ, List.length_map, List.length_cons, List.length_nil, decide_eq_true_eq, Bool.not_true, Bool.not_false, if_true, if_false, Bool.false_eq_true, Vl.okD_int, Vl.okD_bl, Vl.okD_non, Vl.eqD_int, Vl.eqD_bl, Vl.eqD_non, true_and, and_true, Vl.snoc_int, Vl.aIsi, Vl.isi_bl_bool, Vl.isi_bl_int, Vl.isi_int_int, Vl.isi_int_bool, Vl.isi_non_int, Vl.isi_non_bool, Vl.isi_lst_list, Vl.isi_tup_list, Vl.isi_tup_tuple, Vl.isi_non_tuple, Vl.isi_non_list, Vl.isi_str_str, Vl.isi_lst_bool, Vl.isi_str_bool, Vl.isi_tup_bool, Vl.ixD_0, Vl.ixD_1, Vl.ixD_2, Vl.ixD_3, Vl.ixD_4, Vl.ixD_5, Vl.ixD_6, Vl.ixD_7, Vl.ixD_8, Vl.ixD_9, Vl.ixD_10, Vl.ixD_11, Vl.aFld, Vl.aMeth, Vl.aMake, Vl.aMakeK, Vl.mInsert, Vl.aIndex, Vl.fMax1_eq, Vl.fSorted_eq, List.getElem?_cons_zero, List.getElem?_cons_succ, List.cons_append, List.nil_append, Vl.aPar, Vl.aIsO, Vl.dNeS, Vl.aDNew, Vl.dEqO, Vl.aDGet, Vl.aDIx, Vl.dInD, Vl.kidsW, Vl.keyO, Vl.keyF, Vl.keysF, Vl.getK_map, Vl.M.toDs, Vl.refM, Vl.bwM, Vl.owM, Vl.aMakeO, Vl.aSetX, Vl.aSetCX, Vl.aDropX, Vl.aRetX, Vl.aAsgGX, Vl.aIfX, Vl.xP, Vl.tP, Vl.aBX, Vl.aAndX, Vl.aOrX, Vl.aNotX, Vl.aBinX, Vl.aCallL, Vl.aMethL, Vl.alHere, Vl.alCons, Vl.setP, Vl.apV, Vl.apFld, Vl.apIx, Vl.apKey, Vl.aMutP, Vl.aFSet, Vl.aDPutP, Vl.kidW, Vl.putM, Vl.dctM, Vl.aLstO, Vl.aoCons, Vl.aoNil, Vl.aDisp, Vl.dispGo, Vl.iLstG, Vl.xMut, Vl.fLenD, Vl.one, Vl.mRemove, Vl.apW, Vl.allW_nil, Vl.allW_cons, Vl.anHere, Vl.anCons, Vl.aCallN, Vl.aCallF, Vl.clAlls, Vl.clAll, Vl.flatW, Vl.flatD, Vl.flatDs, Bool.and_true, Bool.true_and, Vl.aDNewM, Vl.fSortT_eq, Vl.fSortDT_eq, Vl.fMinD_eq, Vl.fMaxD_eq, Vl.aForX_eq, Vl.aCallK, Vl.aCallD, Vl.xSortPop, Vl.dEqS, Vl.aSlT, Vl.aClE, Vl.aLenSet, Vl.aMakeD])
namespace Vl
open PySem PySem.Spec PyProof.Rows L2
/-! ### the law's rows -/
structure RowL (n : Nat) (r : Str) : Prop where
  ok : PyData.strOk r = true
  nf : 10 ∉ TL.tl r
  len : r.length ≤ n
def c__law_rows : Ct := fun ws Q => ∃ n0 n1 n2 n3 n4 : Int, ws = [.cl (.lst [.int n0, .int n1, .int n2, .int n3, .int n4])] ∧ (∀ rs : List Str, rs ≠ [] → rs.length ≤ 10 → (∀ r ∈ rs, RowL 40 r) → Q (.fr (.fl (rs.map .str))))
theorem l__law_rows : ∀ ws P, c__law_rows ws P → ws.length = 1 := by rintro ws P ⟨n0, n1, n2, n3, n4, rfl, _⟩; rfl
theorem slen (a b : Str) : (a ++ b).length = a.length + b.length := by rw [TL.len_tl, TL.len_tl, TL.len_tl, TL.tl_append, List.length_append]
theorem RowL.app {m n : Nat} {a b : Str} (ha : RowL m a) (hb : RowL n b) : RowL (m + n) (a ++ b) := by
  refine ⟨?_, ?_, by rw [slen]; have := ha.len; have := hb.len; omega⟩
  · rw [strOk_iff, TL.tl_append]
    intro c hc
    rcases List.mem_append.mp hc with q | q
    · exact (strOk_iff a).mp ha.ok c q
    · exact (strOk_iff b).mp hb.ok c q
  · rw [TL.tl_append]
    intro hc
    rcases List.mem_append.mp hc with q | q
    · exact ha.nf q
    · exact hb.nf q
theorem RowL.mono {m n : Nat} {a : Str} (h : RowL m a) (hn : m ≤ n) : RowL n a := ⟨h.ok, h.nf, by have := h.len; omega⟩
def rowB (n : Nat) (w : Str) : Bool := PyData.strOk w && (!(TL.tl w).contains 10 && decide (w.length ≤ n))
theorem rowB_L {n : Nat} {w : Str} (h : rowB n w = true) : RowL n w := by
  unfold rowB at h
  simp only [Bool.and_eq_true, Bool.not_eq_true', decide_eq_true_eq] at h
  obtain ⟨a, b, c⟩ := h
  exact ⟨a, fun z => absurd (List.contains_iff_mem.mpr z) (by rw [b]; exact fun y => nomatch y), c⟩
theorem numS_ok {n : Int} (h : 0 ≤ n) : PyData.strOk (numS n) = true := (strOk_iff _).mpr fun c hc => by
  have := numS_digit h c hc
  omega
theorem log_ok {n : Int} (h : 0 ≤ n) (h1 : n < 1000000000) : n.natAbs.log2 < 1920 := by
  have h2 : n.natAbs < 2 ^ 30 := by omega
  by_cases z : n.natAbs = 0
  · rw [z]; decide
  · have := (Nat.log2_lt z).mpr h2
    omega
theorem num_r {n : Int} (h : 0 ≤ n) (h1 : n < 1000) : n.natAbs.log2 < 1920 ∧ RowL 9 (Str.ofString (toString n)) := ⟨log_ok h (by omega), numS_ok h, numS_free h (.inl (by decide)), numS_len h (by omega)⟩
theorem rl_nil {n : Nat} : ∀ x ∈ ([] : List Str), RowL n x := fun x hx => nomatch hx
theorem rl_cons {n : Nat} {r : Str} {rs : List Str} (h : RowL n r) (t : ∀ x ∈ rs, RowL n x) : ∀ x ∈ r :: rs, RowL n x := fun x hx => (List.mem_cons.mp hx).elim (fun z => z ▸ h) (t x)
theorem ix30 (a b c : D) : ixD [a, b, c] 0 = some a := rfl
theorem ix31 (a b c : D) : ixD [a, b, c] 1 = some b := rfl
theorem ix32 (a b c : D) : ixD [a, b, c] 2 = some c := rfl
theorem ix0 (a : D) (l : List D) : ixD (a :: l) 0 = some a := rfl
/-- _law_rows: slots 0=_law_numbers_here 1=_law_rows_here 2=_law_kinds -/
def a__law_rows : AS :=
  aSeq (aSet 1 (aLst (aCons (aBin dAdd (aBin dAdd (aBin dAdd (aC (.str "net ")) (aCB fStrI (aCons (aBin dMod (aBin dIx (aV 0) (aC (.int 0))) (aC (.int 11))) (aNil)))) (aC (.str " "))) (aCB fStrI (aCons (aBin dMod (aBin dIx (aV 0) (aC (.int 1))) (aC (.int 6))) (aNil)))) (aNil)))) (aSeq (aSetC 2 (aBin dIx (aLst (aCons (aLst (aCons (aC (.str "host")) (aCons (aC (.str "switch")) (aCons (aC (.str "host")) (aCons (aC (.str "host")) (aNil)))))) (aCons (aLst (aCons (aC (.str "host")) (aCons (aC (.str "host")) (aNil)))) (aCons (aLst (aCons (aC (.str "switch")) (aCons (aC (.str "host")) (aCons (aC (.str "switch")) (aCons (aC (.str "host")) (aNil)))))) (aNil))))) (aBin dMod (aBin dIx (aV 0) (aC (.int 2))) (aC (.int 3))))) (aSeq (aSet 1 (aBin dAdd (aV 1) (aV 2))) (aSeq (aIf (aB (aBin (dEq) (aCB fLen1 (aCons (aV 2) (aNil))) (aC (.int 2)))) (aSeq (aMut "list" 1 mAppend (aCons (aBin dAdd (aC (.str "line 0 1 ")) (aCB fStrI (aCons (aBin dMod (aBin dIx (aV 0) (aC (.int 3))) (aC (.int 21))) (aNil)))) (aNil))) (aSeq (aMut "list" 1 mAppend (aCons (aBin dAdd (aC (.str "stream 60 1 300 0,1 ")) (aCB fStrI (aCons (aBin dMod (aBin dIx (aV 0) (aC (.int 4))) (aC (.int 501))) (aNil)))) (aNil))) (aRetV 1))) (aNext)) (aSeq (aIf (aB (aBin (dEq) (aBin dIx (aV 2) (aC (.int 0))) (aC (.str "host")))) (aSeq (aSet 1 (aBin dAdd (aV 1) (aLst (aCons (aC (.str "line 0 1 3")) (aCons (aBin dAdd (aC (.str "line 2 1 ")) (aCB fStrI (aCons (aBin dMod (aBin dIx (aV 0) (aC (.int 3))) (aC (.int 21))) (aNil)))) (aCons (aC (.str "line 1 3 0")) (aNil))))))) (aSeq (aMut "list" 1 mAppend (aCons (aBin dAdd (aBin dAdd (aC (.str "stream 10 ")) (aCB fStrI (aCons (aBin dAdd (aC (.int 1)) (aBin dMod (aBin dIx (aV 0) (aC (.int 4))) (aC (.int 10)))) (aNil)))) (aC (.str " 40 0,1,2 0,12"))) (aNil))) (aRet (aBin dAdd (aV 1) (aLst (aCons (aC (.str "stream 7 2 9 3,1,0 1,500")) (aNil))))))) (aNext)) (aRet (aBin dAdd (aV 1) (aLst (aCons (aC (.str "line 0 1 3")) (aCons (aC (.str "line 0 2 0")) (aCons (aC (.str "line 3 2 4")) (aCons (aC (.str "stream 12 3 30 1,0,2,3 5,9,20")) (aNil))))))))))))
theorem w__law_rows : ∀ ws P, c__law_rows ws P → a__law_rows { nx := fun _ => P (.cl .non), rt := fun w _ => P w } (startA 3 ws) := by
  rintro ws P ⟨n0, n1, n2, n3, n4, rfl, h⟩
  show a__law_rows _ [.im (.lst [.int n0, .int n1, .int n2, .int n3, .int n4]), .non, .non]
  unfold a__law_rows
  walk_at "vs"
  simp only [fStrI, one]
  obtain ⟨g0, r0⟩ := num_r (n := n0 % 11) (by omega) (by omega)
  obtain ⟨g1, r1⟩ := num_r (n := n1 % 6) (by omega) (by omega)
  obtain ⟨g3, r3⟩ := num_r (n := n3 % 21) (by omega) (by omega)
  obtain ⟨g4, r4⟩ := num_r (n := n4 % 501) (by omega) (by omega)
  obtain ⟨g5, r5⟩ := num_r (n := 1 + n4 % 10) (by omega) (by omega)
  generalize Str.ofString (toString (n0 % 11)) = s0 at *
  generalize Str.ofString (toString (n1 % 6)) = s1 at *
  generalize Str.ofString (toString (n3 % 21)) = s3 at *
  generalize Str.ofString (toString (n4 % 501)) = s4 at *
  generalize Str.ofString (toString (1 + n4 % 10)) = s5 at *
  have l0 := r0.len
  have l1 := r1.len
  have l3 := r3.len
  have l4 := r4.len
  have l5 := r5.len
  have kA : (Str.ofString "net ").length = 4 := by decide +kernel
  have kB : (Str.ofString " ").length = 1 := by decide +kernel
  have kC : (Str.ofString "line 0 1 ").length = 9 := by decide +kernel
  have kD' : (Str.ofString "stream 60 1 300 0,1 ").length = 20 := by decide +kernel
  have kE : (Str.ofString "line 2 1 ").length = 9 := by decide +kernel
  have kF : (Str.ofString "stream 10 ").length = 10 := by decide +kernel
  have kG : (Str.ofString " 40 0,1,2 0,12").length = 14 := by decide +kernel
  have c : ∀ {w : Str}, rowB 40 w = true → RowL 40 w := rowB_L
  have x0 : RowL 40 (Str.ofString "net " ++ s0 ++ Str.ofString " " ++ s1) := ((((rowB_L (n := 4) (by decide +kernel)).app r0).app (rowB_L (n := 1) (by decide +kernel))).app r1).mono (by decide)
  have x1 : RowL 40 (Str.ofString "line 0 1 " ++ s3) := ((rowB_L (n := 9) (by decide +kernel)).app r3).mono (by decide)
  have x2 : RowL 40 (Str.ofString "stream 60 1 300 0,1 " ++ s4) := ((rowB_L (n := 20) (by decide +kernel)).app r4).mono (by decide)
  have x3 : RowL 40 (Str.ofString "line 2 1 " ++ s3) := ((rowB_L (n := 9) (by decide +kernel)).app r3).mono (by decide)
  have x4 : RowL 40 (Str.ofString "stream 10 " ++ s5 ++ Str.ofString " 40 0,1,2 0,12") := (((rowB_L (n := 10) (by decide +kernel)).app r5).app (rowB_L (n := 14) (by decide +kernel))).mono (by decide)
  refine ⟨by decide, g0, by omega, by rw [slen]; omega, by decide, g1, by rw [slen, slen]; omega, by decide, by decide, by decide, by decide, by decide, by decide, ?_⟩
  rcases (show n2 % 3 = 0 ∨ n2 % 3 = 1 ∨ n2 % 3 = 2 by omega) with q | q | q
  · rw [q, ix30]
    simp only []
    rw [ix0]
    simp only [fLen1]
    walk_at "vs"
    refine ⟨by decide, ite_no (by decide) ⟨okD_k true, okD_k true, ite_yes (by decide +kernel) ⟨by decide, g3, by omega, by decide, by decide, by decide, g5, by omega, by rw [slen]; omega, by decide, by decide, by decide, h [Str.ofString "net " ++ s0 ++ Str.ofString " " ++ s1, Str.ofString "host", Str.ofString "switch", Str.ofString "host", Str.ofString "host", Str.ofString "line 0 1 3", Str.ofString "line 2 1 " ++ s3, Str.ofString "line 1 3 0", Str.ofString "stream 10 " ++ s5 ++ Str.ofString " 40 0,1,2 0,12", Str.ofString "stream 7 2 9 3,1,0 1,500"] (fun z => nomatch z) (by simp) (rl_cons x0 (rl_cons (rowB_L (by decide +kernel)) (rl_cons (rowB_L (by decide +kernel)) (rl_cons (rowB_L (by decide +kernel)) (rl_cons (rowB_L (by decide +kernel)) (rl_cons (rowB_L (by decide +kernel)) (rl_cons x3 (rl_cons (rowB_L (by decide +kernel)) (rl_cons x4 (rl_cons (rowB_L (by decide +kernel)) rl_nil))))))))))⟩⟩⟩
  · rw [q, ix31]
    simp only []
    simp only [fLen1]
    walk_at "vs"
    refine ⟨by decide, ite_yes (by decide) ⟨by decide, g3, by omega, by decide, by decide, g4, by omega, by decide, h [Str.ofString "net " ++ s0 ++ Str.ofString " " ++ s1, Str.ofString "host", Str.ofString "host", Str.ofString "line 0 1 " ++ s3, Str.ofString "stream 60 1 300 0,1 " ++ s4] (fun z => nomatch z) (by simp) (rl_cons x0 (rl_cons (rowB_L (by decide +kernel)) (rl_cons (rowB_L (by decide +kernel)) (rl_cons x1 (rl_cons x2 rl_nil)))))⟩⟩
  · rw [q, ix32]
    simp only []
    rw [ix0]
    simp only [fLen1]
    walk_at "vs"
    refine ⟨by decide, ite_no (by decide) ⟨okD_k false, okD_k true, ite_no (by decide +kernel) ⟨by decide, by decide, h [Str.ofString "net " ++ s0 ++ Str.ofString " " ++ s1, Str.ofString "switch", Str.ofString "host", Str.ofString "switch", Str.ofString "host", Str.ofString "line 0 1 3", Str.ofString "line 0 2 0", Str.ofString "line 3 2 4", Str.ofString "stream 12 3 30 1,0,2,3 5,9,20"] (fun z => nomatch z) (by simp) (rl_cons x0 (rl_cons (rowB_L (by decide +kernel)) (rl_cons (rowB_L (by decide +kernel)) (rl_cons (rowB_L (by decide +kernel)) (rl_cons (rowB_L (by decide +kernel)) (rl_cons (rowB_L (by decide +kernel)) (rl_cons (rowB_L (by decide +kernel)) (rl_cons (rowB_L (by decide +kernel)) (rl_cons (rowB_L (by decide +kernel)) rl_nil)))))))))⟩⟩⟩
theorem ix_strs {xs : List Str} {i : Int} (h0 : 0 ≤ i) (h1 : i < xs.length) : ∃ w ∈ xs, ixD (xs.map D.str) i = some (D.str w) := by
  have hk : i.toNat < xs.length := by omega
  refine ⟨xs[i.toNat], List.getElem_mem hk, ?_⟩
  unfold ixD
  rw [if_pos h0, List.getElem?_map, List.getElem?_eq_getElem hk]
  rfl
def wordL : List Str := [Str.ofString "0", Str.ofString "1", Str.ofString "01", Str.ofString "", Str.ofString "x", Str.ofString "13", Str.ofString "60", Str.ofString "61", Str.ofString "300", Str.ofString "301", Str.ofString "20", Str.ofString "21", Str.ofString "500", Str.ofString "501", Str.ofString "0,1", Str.ofString "0,1,2", Str.ofString "2,1,0", Str.ofString "-1", Str.ofString "1000000000", Str.ofString "999999999", Str.ofString "5", Str.ofString "6", Str.ofString "10", Str.ofString "11", Str.ofString "host", Str.ofString "line", Str.ofString "stream", Str.ofString "net", Str.ofString "0,1,1", Str.ofString ",", Str.ofString "2,2"]
theorem wordL_ok : ∀ w ∈ wordL, RowL 10 w := fun w hw => rowB_L (List.all_eq_true.mp (show wordL.all (rowB 10) = true by decide +kernel) w hw)
def c__law_word : Ct := fun ws Q => ∃ n0 n1 n2 n3 : Int, ws = [.cl (.lst [.int n0, .int n1, .int n2, .int n3])] ∧ (∀ w, RowL 10 w → Q (.cl (.str w)))
theorem l__law_word : ∀ ws P, c__law_word ws P → ws.length = 1 := by rintro ws P ⟨n0, n1, n2, n3, rfl, _⟩; rfl
/-- _law_word: slots 0=_law_numbers_here 1=_law_words -/
def a__law_word : AS :=
  aSeq (aSetC 1 (aLst (aCons (aC (.str "0")) (aCons (aC (.str "1")) (aCons (aC (.str "01")) (aCons (aC (.str "")) (aCons (aC (.str "x")) (aCons (aC (.str "13")) (aCons (aC (.str "60")) (aCons (aC (.str "61")) (aCons (aC (.str "300")) (aCons (aC (.str "301")) (aCons (aC (.str "20")) (aCons (aC (.str "21")) (aCons (aC (.str "500")) (aCons (aC (.str "501")) (aCons (aC (.str "0,1")) (aCons (aC (.str "0,1,2")) (aCons (aC (.str "2,1,0")) (aNil)))))))))))))))))))) (aSeq (aSetC 1 (aBin dAdd (aV 1) (aLst (aCons (aC (.str "-1")) (aCons (aC (.str "1000000000")) (aCons (aC (.str "999999999")) (aCons (aC (.str "5")) (aCons (aC (.str "6")) (aCons (aC (.str "10")) (aCons (aC (.str "11")) (aCons (aC (.str "host")) (aCons (aC (.str "line")) (aCons (aC (.str "stream")) (aCons (aC (.str "net")) (aCons (aC (.str "0,1,1")) (aCons (aC (.str ",")) (aCons (aC (.str "2,2")) (aNil)))))))))))))))))) (aRet (aBin dIx (aV 1) (aBin dMod (aBin dIx (aV 0) (aC (.int 2))) (aCB fLen1 (aCons (aV 1) (aNil)))))))
theorem w__law_word : ∀ ws P, c__law_word ws P → a__law_word { nx := fun _ => P (.cl .non), rt := fun w _ => P w } (startA 2 ws) := by
  rintro ws P ⟨n0, n1, n2, n3, rfl, h⟩
  show a__law_word _ [.im (.lst [.int n0, .int n1, .int n2, .int n3]), .non]
  unfold a__law_word
  walk_at "vs"
  refine ⟨by decide, by decide, by decide, by decide, ?_⟩
  obtain ⟨w, hw, e⟩ := ix_strs (xs := wordL) (i := n2 % 31) (by omega) (by show n2 % 31 < 31; omega)
  show match ixD (wordL.map D.str) (n2 % 31) with
    | some d => P (W.cl d)
    | none => False
  rw [e]
  exact h w (wordL_ok w hw)
end Vl
set_option maxHeartbeats 2000000
local macro_rules | `(tactic| walk_at "vs") => `(tactic| simp only [Vl.aSeq, Vl.aFor_eq, Vl.aIf, Vl.aB, Vl.aBin, Vl.aUn, Vl.aV, Vl.slotW, Vl.gt_z, Vl.gt_s, Vl.aCB, Vl.aCall, Vl.aCons, Vl.aNil, Vl.argW, Vl.dLt_eq, Vl.dLe_eq, Vl.dGt_eq, Vl.dGe_eq, Vl.dI0, Vl.dI, Vl.dAdd, Vl.dSub_eq, Vl.dMul, Vl.dDiv_eq, Vl.dMod_eq, Vl.dPow_eq, Vl.dShl_eq, Vl.dNeg, Vl.dNot, Vl.dIsN, Vl.dNotN, Vl.dEq, Vl.dNe, Vl.dIn, Vl.dIx, Vl.fLen_lst, Vl.fLen_tup, Vl.fLen_ow, Vl.fLen_bw, Vl.fLen_scr, Vl.fLen_str, Vl.fInt_int, Vl.fInt_bl, Vl.fAbs_int, Vl.fMax_int, Vl.fMin_int, Vl.fGcd_int, Vl.fLcm_int, Vl.fList_lst, Vl.fList_tup, Vl.fList_ow, Vl.fList_bw, Vl.fList_scr, Vl.seqC, Vl.lstC, Vl.itemsC, Vl.clW, Vl.W.toD, Vl.M.toD, Vl.clDs, Option.map_some, Option.map_none,
  Vl.aRet, Vl.aRetV, Vl.aRetN, Vl.aNext, Vl.aBreak, Vl.aCont, Vl.aC, Vl.aSet, Vl.aSetC, Vl.slotA, Vl.aDrop, Vl.aAsgG, Vl.agN, Vl.agT, Vl.agCons, Vl.agNil, Vl.iLst, Vl.iTup, Vl.iR1, Vl.iR2, Vl.aTup, Vl.aLst, Vl.aAnd, Vl.aOr, Vl.aNot, Vl.aAndV, Vl.aOrV, Vl.aIfE, Vl.aSl, Vl.aoS, Vl.aoN, Vl.aChain, Vl.aAugAdd, Vl.aAugSub, Vl.aMut, Vl.aMutS, Vl.mAppend, Vl.mPop, Vl.mPopAt, Vl.mReverse, Vl.tyM, Vl.aFrz, Vl.frz, Vl.aSetIx, Vl.aLc, Vl.wipeA, Vl.aYes,
  List.set_cons_zero, List.set_cons_succ, List.length_map, List.length_cons, List.length_nil, decide_eq_true_eq, Bool.not_true, Bool.not_false, if_true, if_false, Bool.false_eq_true, Vl.okD_int, Vl.okD_bl, Vl.okD_non, Vl.eqD_int, Vl.eqD_bl, Vl.eqD_non, true_and, and_true, Vl.snoc_int, Vl.aIsi, Vl.isi_bl_bool, Vl.isi_bl_int, Vl.isi_int_int, Vl.isi_int_bool, Vl.isi_non_int, Vl.isi_non_bool, Vl.isi_lst_list, Vl.isi_tup_list, Vl.isi_tup_tuple, Vl.isi_non_tuple, Vl.isi_non_list, Vl.isi_str_str, Vl.isi_lst_bool, Vl.isi_str_bool, Vl.isi_tup_bool, Vl.ixD_0, Vl.ixD_1, Vl.ixD_2, Vl.ixD_3, Vl.ixD_4, Vl.ixD_5, Vl.ixD_6, Vl.ixD_7, Vl.ixD_8, Vl.ixD_9, Vl.ixD_10, Vl.ixD_11, Vl.aFld, Vl.aMeth, Vl.aMake, Vl.aMakeK, Vl.mInsert, Vl.aIndex, Vl.fMax1_eq, Vl.fSorted_eq, List.getElem?_cons_zero, List.getElem?_cons_succ, List.cons_append, List.nil_append, Vl.aPar, Vl.aIsO, Vl.dNeS, Vl.aDNew, Vl.dEqO, Vl.aDGet, Vl.aDIx, Vl.dInD, Vl.kidsW, Vl.keyO, Vl.keyF, Vl.keysF, Vl.getK_map, Vl.M.toDs, Vl.refM, Vl.bwM, Vl.owM, Vl.aMakeO, Vl.aSetX, Vl.aSetCX, Vl.aDropX, Vl.aRetX, Vl.aAsgGX, Vl.aIfX, Vl.xP, Vl.tP, Vl.aBX, Vl.aAndX, Vl.aOrX, Vl.aNotX, Vl.aBinX, Vl.aCallL, Vl.aMethL, Vl.alHere, Vl.alCons, Vl.setP, Vl.apV, Vl.apFld, Vl.apIx, Vl.apKey, Vl.aMutP, Vl.aFSet, Vl.aDPutP, Vl.kidW, Vl.putM, Vl.dctM, Vl.aLstO, Vl.aoCons, Vl.aoNil, Vl.aDisp, Vl.dispGo, Vl.iLstG, Vl.xMut, Vl.fLenD, Vl.one, Vl.mRemove, Vl.apW, Vl.allW_nil, Vl.allW_cons, Vl.anHere, Vl.anCons, Vl.aCallN, Vl.aCallF, Vl.clAlls, Vl.clAll, Vl.flatW, Vl.flatD, Vl.flatDs, Bool.and_true, Bool.true_and, Vl.aDNewM, Vl.fSortT_eq, Vl.fSortDT_eq, Vl.fMinD_eq, Vl.fMaxD_eq, Vl.aForX_eq, Vl.aCallK, Vl.aCallD, Vl.xSortPop, Vl.dEqS, Vl.aSlT, Vl.aClE, Vl.aLenSet, Vl.aMakeD])
namespace Vl
open PySem PySem.Spec PyProof.Rows L2
/-! ### one change of the rows -/
def Lm (ps : List Str) : Nat := (ps.map (·.length)).sum + ps.length
theorem Lm_app (a b : List Str) : Lm (a ++ b) = Lm a + Lm b := by unfold Lm; rw [List.map_append, List.sum_append, List.length_append]; omega
theorem Lm_one (a : Str) : Lm [a] = a.length + 1 := by unfold Lm; simp
theorem Lm_take_drop (ps : List Str) (i : Nat) : Lm ps = Lm (ps.take i) + Lm (ps.drop i) := by rw [← Lm_app, List.take_append_drop]
theorem joinL_lm : ∀ {ps : List (List Nat)} {c : Nat}, ps ≠ [] → (TL.joinL [c] ps).length + 1 = (ps.map (·.length)).sum + ps.length
  | [], _, h => absurd rfl h
  | [p], _, _ => by simp [TL.joinL]
  | p :: q :: r, c, _ => by
    have ih := joinL_lm (ps := q :: r) (c := c) (by simp)
    show (p ++ ([c] ++ TL.joinL [c] (q :: r))).length + 1 = _
    rw [List.map_cons, List.sum_cons, List.length_cons, List.length_append, List.length_append, List.length_singleton]
    omega
theorem map_chs_len (ps : List Str) : (ps.map chs).map (·.length) = ps.map (·.length) := by
  rw [List.map_map]
  exact List.map_congr_left fun x _ => chs_len x
theorem Lm_parts (r : Str) : Lm (parts sp r) = r.length + 1 := by
  have h := joinL_lm (ps := (parts sp r).map chs) (c := 32) (by simpa using sp_ne r)
  rw [show [32] = chs sp by decide +kernel, parts_join, chs_len, map_chs_len, List.length_map] at h
  exact h.symm
theorem tl_chs (r : Str) : TL.tl r = chs r := rfl
theorem Lm_join (ps : List Str) : (Txt.join (Str.ofString " ") ps).length ≤ Lm ps := by
  cases ps with
  | nil => exact Nat.le_of_eq (by decide +kernel)
  | cons p r =>
    rw [TL.len_tl, tlj, show TL.tl (Str.ofString " ") = [32] by decide +kernel]
    have h := joinL_lm (ps := (p :: r).map TL.tl) (c := 32) (by simp)
    have e := map_chs_len (p :: r)
    rw [show ((p :: r).map TL.tl).map (·.length) = ((p :: r).map chs).map (·.length) from rfl, e, List.length_map] at h
    show _ ≤ ((p :: r).map (·.length)).sum + (p :: r).length
    omega
/-- words that may stand in a row -/
def WG (ps : List Str) : Prop := ∀ p ∈ ps, PyData.strOk p = true ∧ 10 ∉ TL.tl p
theorem join_mem {y : Str} {ps : List Str} {c : Nat} (h : c ∈ TL.tl (Txt.join y ps)) : c ∈ TL.tl y ∨ ∃ p ∈ ps, c ∈ TL.tl p := by
  rw [tlj] at h
  have : ∀ {S : List Nat} {ps : List (List Nat)}, c ∈ TL.joinL S ps → c ∈ S ∨ ∃ p ∈ ps, c ∈ p := by
    intro S ps
    induction ps with
    | nil => exact fun h => nomatch h
    | cons p r ih =>
      cases r with
      | nil => exact fun h => .inr ⟨p, List.mem_cons_self, h⟩
      | cons q r =>
        intro h
        have h : c ∈ p ++ (S ++ TL.joinL S (q :: r)) := h
        rcases List.mem_append.mp h with h | h
        · exact .inr ⟨p, List.mem_cons_self, h⟩
        · rcases List.mem_append.mp h with h | h
          · exact .inl h
          · rcases ih h with h | ⟨x, hx, h⟩
            · exact .inl h
            · exact .inr ⟨x, List.mem_cons_of_mem _ hx, h⟩
  rcases this h with h | ⟨p, hp, h⟩
  · exact .inl h
  · obtain ⟨z, hz, rfl⟩ := List.mem_map.mp hp
    exact .inr ⟨z, hz, h⟩
theorem join_row {ps : List Str} {n : Nat} (h : WG ps) (hl : Lm ps ≤ n) : RowL n (Txt.join (Str.ofString " ") ps) := by
  have e : TL.tl (Str.ofString " ") = [32] := by decide +kernel
  refine ⟨(strOk_iff _).mpr fun c hc => ?_, fun hc => ?_, Nat.le_trans (Lm_join ps) hl⟩
  · rcases join_mem hc with q | ⟨p, hp, q⟩
    · rw [e, List.mem_singleton] at q
      rw [q]; decide
    · exact (strOk_iff p).mp (h p hp).1 c q
  · rcases join_mem hc with q | ⟨p, hp, q⟩
    · rw [e, List.mem_singleton] at q
      cases q
    · exact (h p hp).2 q
theorem parts_WG {n : Nat} {r : Str} (h : RowL n r) : WG (parts sp r) := fun p hp => ⟨(part_ok hp).str h.ok, fun z => h.nf ((part_ok hp).sub _ z)⟩
theorem WG.app {a b : List Str} (ha : WG a) (hb : WG b) : WG (a ++ b) := fun p hp => (List.mem_append.mp hp).elim (ha p) (hb p)
theorem WG.take {a : List Str} (h : WG a) (i : Nat) : WG (a.take i) := fun p hp => h p (List.mem_of_mem_take hp)
theorem WG.drop {a : List Str} (h : WG a) (i : Nat) : WG (a.drop i) := fun p hp => h p (List.mem_of_mem_drop hp)
theorem WG.one {p : Str} (h : PyData.strOk p = true ∧ 10 ∉ TL.tl p) : WG [p] := fun q hq => List.mem_singleton.mp hq ▸ h
theorem mod_nat {n : Int} {m : Nat} (h : 0 < m) : ∃ k : Nat, k < m ∧ n % (m : Int) = k := by
  have h0 := Int.emod_nonneg n (show (m : Int) ≠ 0 by omega)
  have h1 := Int.emod_lt_of_pos n (show 0 < (m : Int) by omega)
  exact ⟨(n % (m : Int)).toNat, by omega, by omega⟩
theorem in678 (k : Int) : inD (.int k) [.int 6, .int 7, .int 8] = decide (k = 6 ∨ k = 7 ∨ k = 8) := by
  unfold inD
  simp only [List.any_cons, List.any_nil, eqD_int, Bool.or_false]
  by_cases h : k = 6 ∨ k = 7 ∨ k = 8
  · rw [decide_eq_true h]
    rcases h with rfl | rfl | rfl <;> decide
  · rw [decide_eq_false h, decide_eq_false (fun z => h (.inl z.symm)), decide_eq_false (fun z => h (.inr (.inl z.symm))), decide_eq_false (fun z => h (.inr (.inr z.symm)))]
    rfl
def c__law_spoilt : Ct := fun ws Q => ∃ (rs : List Str) (n : Nat) (n0 n1 n2 n3 : Int), ws = [.cl (.lst (rs.map .str)), .cl (.lst [.int n0, .int n1, .int n2, .int n3])] ∧ rs ≠ [] ∧ rs.length ≤ 12 ∧ (∀ r ∈ rs, RowL n r) ∧ n ≤ 300 ∧ (∀ rs' : List Str, rs'.length ≤ rs.length + 1 → (∀ r ∈ rs', RowL (2 * n + 12) r) → Q (.fr (.fl (rs'.map .str))))
theorem l__law_spoilt : ∀ ws P, c__law_spoilt ws P → ws.length = 2 := by rintro ws P ⟨rs, n, n0, n1, n2, n3, rfl, _⟩; rfl
/-- _law_spoilt: slots 0=_law_rows_here 1=_law_numbers_here 2=_law_kind 3=_law_at 4=_law_words 5=_law_which -/
def a__law_spoilt : AS :=
  aSeq (aSetC 2 (aBin dMod (aBin dIx (aV 1) (aC (.int 0))) (aC (.int 11)))) (aSeq (aSetC 3 (aBin dMod (aBin dIx (aV 1) (aC (.int 1))) (aCB fLen1 (aCons (aV 0) (aNil))))) (aSeq (aSet 4 (aSplit (aBin dIx (aV 0) (aV 3)) (aCons (aC (.str " ")) (aNil)))) (aSeq (aSetC 5 (aBin dMod (aBin dIx (aV 1) (aC (.int 3))) (aCB fLen1 (aCons (aV 4) (aNil))))) (aSeq (aIf (aB (aBin (dEq) (aV 2) (aC (.int 0)))) (aRet (aBin dAdd (aSl (aV 0) (aoN) (aoS (aV 3))) (aSl (aV 0) (aoS (aBin dAdd (aV 3) (aC (.int 1)))) (aoN)))) (aNext)) (aSeq (aIf (aB (aBin (dEq) (aV 2) (aC (.int 1)))) (aRet (aBin dAdd (aBin dAdd (aSl (aV 0) (aoN) (aoS (aV 3))) (aLst (aCons (aBin dIx (aV 0) (aV 3)) (aNil)))) (aSl (aV 0) (aoS (aV 3)) (aoN)))) (aNext)) (aSeq (aIf (aAnd (aB (aBin (dEq) (aV 2) (aC (.int 2)))) (aB (aBin (dLt) (aBin dAdd (aV 3) (aC (.int 1))) (aCB fLen1 (aCons (aV 0) (aNil)))))) (aRet (aBin dAdd (aBin dAdd (aSl (aV 0) (aoN) (aoS (aV 3))) (aLst (aCons (aBin dIx (aV 0) (aBin dAdd (aV 3) (aC (.int 1)))) (aCons (aBin dIx (aV 0) (aV 3)) (aNil))))) (aSl (aV 0) (aoS (aBin dAdd (aV 3) (aC (.int 2)))) (aoN)))) (aNext)) (aSeq (aIf (aB (aBin (dEq) (aV 2) (aC (.int 3)))) (aRet (aBin dAdd (aBin dAdd (aSl (aV 0) (aoN) (aoS (aV 3))) (aSl (aV 0) (aoS (aBin dAdd (aV 3) (aC (.int 1)))) (aoN))) (aLst (aCons (aBin dIx (aV 0) (aV 3)) (aNil))))) (aNext)) (aCut (aIf (aB (aBin (dEq) (aV 2) (aC (.int 4)))) (aSet 4 (aBin dAdd (aSl (aV 4) (aoN) (aoS (aV 5))) (aSl (aV 4) (aoS (aBin dAdd (aV 5) (aC (.int 1)))) (aoN)))) (aNext)) (aCut (aIf (aB (aBin (dEq) (aV 2) (aC (.int 5)))) (aSet 4 (aBin dAdd (aBin dAdd (aSl (aV 4) (aoN) (aoS (aV 5))) (aLst (aCons (aBin dIx (aV 4) (aV 5)) (aNil)))) (aSl (aV 4) (aoS (aV 5)) (aoN)))) (aNext)) (aCut (aIf (aB (aBin (dIn false) (aV 2) (aLst (aCons (aC (.int 6)) (aCons (aC (.int 7)) (aCons (aC (.int 8)) (aNil))))))) (aSetIx 4 (aV 5) (aCall c__law_word (aCons (aV 1) (aNil)))) (aNext)) (aCut (aIf (aB (aBin (dEq) (aV 2) (aC (.int 9)))) (aSet 4 (aBin dAdd (aV 4) (aLst (aCons (aC (.str "")) (aNil))))) (aNext)) (aRet (aBin dAdd (aBin dAdd (aSl (aV 0) (aoN) (aoS (aV 3))) (aLst (aCons (aJoin (aC (.str " ")) (aCons (aV 4) (aNil))) (aNil)))) (aSl (aV 0) (aoS (aBin dAdd (aV 3) (aC (.int 1)))) (aoN)))))))))))))))
theorem w__law_spoilt : ∀ ws P, c__law_spoilt ws P → a__law_spoilt { nx := fun _ => P (.cl .non), rt := fun w _ => P w } (startA 6 ws) := by
  rintro ws P ⟨rs, n, n0, n1, n2, n3, rfl, hne, hl, hrs, hn, h⟩
  show a__law_spoilt _ [.im (.lst (rs.map .str)), .im (.lst [.int n0, .int n1, .int n2, .int n3]), .non, .non, .non, .non]
  unfold a__law_spoilt
  have hpos := List.length_pos_iff.mpr hne
  obtain ⟨k, hk, ek⟩ : ∃ k : Nat, k < rs.length ∧ n1 % (rs.length : Int) = k := mod_nat hpos
  obtain ⟨r, hr⟩ : ∃ r, rs[k]? = some r := ⟨_, List.getElem?_eq_getElem hk⟩
  have hrm : r ∈ rs := List.mem_of_getElem? hr
  have hrr := hrs r hrm
  have lr := hrr.len
  have hat : ixD (rs.map D.str) (k : Int) = some (.str r) := ixD_map D.str (by omega) (by rw [Int.toNat_natCast]; exact hr)
  have c1 : cutD (rs.map D.str) none (some (k : Int)) = (rs.take k).map D.str := cut_takeF D.str rs k
  have c2 : cutD (rs.map D.str) (some ((k : Int) + 1)) none = (rs.drop (k + 1)).map D.str := cut_dropF D.str rs (k + 1)
  have c3 : cutD (rs.map D.str) (some (k : Int)) none = (rs.drop k).map D.str := cut_dropF D.str rs k
  have c4 : cutD (rs.map D.str) (some ((k : Int) + 2)) none = (rs.drop (k + 2)).map D.str := cut_dropF D.str rs (k + 2)
  have l1 : (rs.take k).length = k := by rw [List.length_take]; omega
  have l2 : (rs.drop (k + 1)).length = rs.length - (k + 1) := List.length_drop
  have l3 : (rs.drop k).length = rs.length - k := List.length_drop
  have l4 : (rs.drop (k + 2)).length = rs.length - (k + 2) := List.length_drop
  have m1 : ∀ {i : Nat}, ∀ x ∈ rs.take i, RowL (2 * n + 12) x := fun x hx => (hrs x (List.mem_of_mem_take hx)).mono (by omega)
  have m2 : ∀ {i : Nat}, ∀ x ∈ rs.drop i, RowL (2 * n + 12) x := fun x hx => (hrs x (List.mem_of_mem_drop hx)).mono (by omega)
  have mr : RowL (2 * n + 12) r := hrr.mono (by omega)
  have app : ∀ {a b : List Str}, (∀ x ∈ a, RowL (2 * n + 12) x) → (∀ x ∈ b, RowL (2 * n + 12) x) → ∀ x ∈ a ++ b, RowL (2 * n + 12) x := fun ha hb x hx => (List.mem_append.mp hx).elim (ha x) (hb x)
  walk_at "vs"
  simp only [aSplit]
  walk_at "vs"
  simp only [ek, hat, c1, c2, c3, c4]
  rw [split_sp]
  have W0 := parts_WG hrr
  have LW := Lm_parts r
  obtain ⟨ps, hps⟩ : ∃ ps, ps = parts sp r := ⟨_, rfl⟩
  have pne : 0 < ps.length := by rw [hps]; exact List.length_pos_iff.mpr (sp_ne r)
  rw [← hps] at W0 LW
  rw [← hps]
  have pcnt : ps.length ≤ r.length + 1 := by rw [hps]; exact parts_cnt (by decide +kernel) r
  obtain ⟨j, hj, ej⟩ : ∃ j : Nat, j < ps.length ∧ n3 % (ps.length : Int) = j := mod_nat pne
  obtain ⟨w, hw⟩ : ∃ w, ps[j]? = some w := ⟨_, List.getElem?_eq_getElem hj⟩
  have hwm : w ∈ ps := List.mem_of_getElem? hw
  have lw : w.length + 1 ≤ Lm ps := by
    have e := Lm_take_drop ps j
    have : ps.drop j = [w] ++ ps.drop (j + 1) := by
      rw [List.drop_eq_getElem_cons hj]
      rw [List.getElem?_eq_getElem hj] at hw
      rw [Option.some.inj hw]
      rfl
    rw [this, Lm_app, Lm_one] at e
    omega
  refine ⟨by decide, by omega, rfl, by omega, by omega, ?_⟩
  rw [ej]
  obtain ⟨K, hK⟩ : ∃ K, K = n0 % 11 := ⟨_, rfl⟩
  rw [← hK]
  have lmt : ∀ i, (rs.take i).length ≤ 12 := fun i => by rw [List.length_take]; omega
  have lmd : ∀ i, (rs.drop i).length ≤ 12 := fun i => by rw [List.length_drop]; omega
  by_cases k0 : K = 0
  · refine ite_yes k0 ⟨by rw [List.length_map, List.length_map]; omega, ?_⟩
    rw [← List.map_append]
    exact h _ (by rw [List.length_append]; omega) (app m1 m2)
  refine ite_no k0 ?_
  by_cases k1 : K = 1
  · refine ite_yes k1 ⟨by decide, by rw [List.length_map]; omega, by rw [List.length_append, List.length_map, List.length_map, List.length_singleton]; omega, ?_⟩
    have := h (rs.take k ++ [r] ++ rs.drop k) (by rw [List.length_append, List.length_append, List.length_singleton]; omega) (app (app m1 (rl_cons mr rl_nil)) m2)
    rw [List.map_append, List.map_append] at this
    exact this
  refine ite_no k1 ?_
  have fin : ∀ ws : List Str, WG ws → Lm ws ≤ 2 * n + 12 → P (.fr (.fl ((rs.take k).map D.str ++ [.str (Txt.join (Str.ofString " ") ws)] ++ (rs.drop (k + 1)).map D.str))) := fun ws hw hl => by
    have := h (rs.take k ++ [Txt.join (Str.ofString " ") ws] ++ rs.drop (k + 1)) (by rw [List.length_append, List.length_append, List.length_singleton]; omega) (app (app m1 (rl_cons (join_row hw hl) rl_nil)) m2)
    rw [List.map_append, List.map_append] at this
    exact this
  by_cases k2 : K = 2
  · refine ite_yes k2 ?_
    by_cases kk : (k : Int) + 1 < (rs.length : Int)
    · refine ite_yes kk ?_
      obtain ⟨r2, hr2⟩ : ∃ r2, rs[k + 1]? = some r2 := ⟨_, List.getElem?_eq_getElem (by omega)⟩
      have hat2 : ixD (rs.map D.str) ((k : Int) + 1) = some (.str r2) := ixD_map D.str (by omega) (by rw [show ((k : Int) + 1).toNat = k + 1 by omega]; exact hr2)
      rw [hat2]
      refine ⟨by decide, by rw [List.length_map]; omega, by rw [List.length_append, List.length_map, List.length_map]; simp; omega, ?_⟩
      have := h (rs.take k ++ [r2, r] ++ rs.drop (k + 2)) (by rw [List.length_append, List.length_append]; simp only [List.length_cons, List.length_nil]; omega) (app (app m1 (rl_cons ((hrs r2 (List.mem_of_getElem? hr2)).mono (by omega)) (rl_cons mr rl_nil))) m2)
      rw [List.map_append, List.map_append] at this
      exact this
    · refine ite_no kk (ite_no (by omega) ?_)
      have d1 : cutD (ps.map D.str) none (some (j : Int)) = (ps.take j).map D.str := cut_takeF D.str ps j
      have d2 : cutD (ps.map D.str) (some ((j : Int) + 1)) none = (ps.drop (j + 1)).map D.str := cut_dropF D.str ps (j + 1)
      have d3 : cutD (ps.map D.str) (some (j : Int)) none = (ps.drop j).map D.str := cut_dropF D.str ps j
      have wat : ixD (ps.map D.str) (j : Int) = some (.str w) := ixD_map D.str (by omega) (by rw [Int.toNat_natCast]; exact hw)
      have e1 : (ps.take j).length = j := by rw [List.length_take]; omega
      have e2 : (ps.drop (j + 1)).length = ps.length - (j + 1) := List.length_drop
      have e3 : (ps.drop j).length = ps.length - j := List.length_drop
      have t1 := Lm_take_drop ps j
      have t2 := Lm_take_drop (ps.drop j) 1
      have t3 := Lm_take_drop ps (j + 1)
      have tw : Lm (ps.take (j + 1)) = Lm (ps.take j) + (w.length + 1) := by
        rw [List.take_succ, hw, Lm_app]
        exact congrArg _ (Lm_one w)
      have Wone : ∀ {x : Str}, x ∈ ps → WG [x] := fun hx => WG.one (W0 _ hx)
      have kB : (Str.ofString " ").length = 1 := by decide +kernel
      have lt1 := lmt k
      have ld1 := lmd (k + 1)
      have tail : ∀ ws : List Str, WG ws → Lm ws ≤ 2 * n + 12 → ∃ ys : List Str, some (List.map D.str ws) = some (List.map D.str ys) ∧ (List.map (fun x => x.length) ys).sum + ys.length * (Str.ofString " ").length ≤ 1000000 ∧ 0 + 1 ≤ 1000000 ∧ (List.map D.str (List.take k rs)).length + (0 + 1) ≤ 1000000 ∧ (List.map D.str (List.take k rs) ++ [D.str (Txt.join (Str.ofString " ") ys)]).length + (List.map D.str (List.drop (k + 1) rs)).length ≤ 1000000 ∧ P (W.fr (M.fl (List.map D.str (List.take k rs) ++ [D.str (Txt.join (Str.ofString " ") ys)] ++ List.map D.str (List.drop (k + 1) rs)))) :=
        fun ws q1 q2 => ⟨ws, rfl, by rw [kB, Nat.mul_one]; show Lm ws ≤ _; omega, by decide, by rw [List.length_map]; omega, by rw [List.length_append, List.length_map, List.length_map, List.length_singleton]; omega, fin ws q1 q2⟩
      by_cases k4 : K = 4
      · refine cut_self ?_
        walk_at "vs"
        refine ite_yes k4 ?_
        rw [d1, d2, ← List.map_append]
        refine ⟨by simp only [List.length_map]; omega, cut_self ?_⟩
        walk_at "vs"
        refine ite_no (by omega) (cut_self ?_)
        walk_at "vs"
        refine ⟨by decide, rfl, ite_no (by rw [in678, decide_eq_false (by omega)]; exact fun z => nomatch z) (cut_self ?_)⟩
        walk_at "vs"
        refine ite_no (by omega) ?_
        simp only [aJoin]
        walk_at "vs"
        rw [c1, c2]
        exact tail (ps.take j ++ ps.drop (j + 1)) ((W0.take _).app (W0.drop _)) (by rw [Lm_app]; omega)
      by_cases k5 : K = 5
      · refine cut_self ?_
        walk_at "vs"
        refine ite_no k4 (cut_self ?_)
        walk_at "vs"
        rw [d1, d3, wat]
        refine ite_yes k5 ⟨by decide, by rw [List.length_map]; omega, by rw [List.length_append, List.length_map, List.length_map, List.length_singleton]; omega, ?_⟩
        rw [show List.map D.str (ps.take j) ++ [D.str w] ++ List.map D.str (ps.drop j) = (ps.take j ++ [w] ++ ps.drop j).map D.str by rw [List.map_append, List.map_append]; rfl]
        refine cut_self ?_
        walk_at "vs"
        refine ⟨by decide, rfl, ite_no (by rw [in678, decide_eq_false (by omega)]; exact fun z => nomatch z) (cut_self ?_)⟩
        walk_at "vs"
        refine ite_no (by omega) ?_
        simp only [aJoin]
        walk_at "vs"
        rw [c1, c2]
        exact tail (ps.take j ++ [w] ++ ps.drop j) (((W0.take _).app (Wone hwm)).app (W0.drop _)) (by rw [Lm_app, Lm_app, Lm_one]; omega)
      by_cases k6 : K = 6 ∨ K = 7 ∨ K = 8
      · refine cut_self ?_
        walk_at "vs"
        refine ite_no k4 (cut_self ?_)
        walk_at "vs"
        refine ite_no k5 (cut_self ?_)
        walk_at "vs"
        refine ⟨by decide, rfl, ite_yes (by rw [in678]; exact decide_eq_true k6) ⟨n0, n1, n2, n3, rfl, fun x hx => ?_⟩⟩
        have ej2 : ixN ps.length (j : Int) = some j := by
          unfold ixN
          rw [if_pos (show 0 ≤ (j : Int) by omega), if_pos (show (j : Int) < ps.length by omega), Int.toNat_natCast]
        simp only []
        rw [ej2]
        simp only []
        have es : (ps.map D.str).set j (.str x) = (ps.take j ++ [x] ++ ps.drop (j + 1)).map D.str := by
          rw [← List.map_set, List.set_eq_take_append_cons_drop, if_pos hj, List.append_assoc]
          rfl
        rw [es]
        have lx := hx.len
        refine cut_self ?_
        walk_at "vs"
        refine ite_no (by omega) ?_
        simp only [aJoin]
        walk_at "vs"
        rw [c1, c2]
        exact tail (ps.take j ++ [x] ++ ps.drop (j + 1)) (((W0.take _).app (WG.one ⟨hx.ok, hx.nf⟩)).app (W0.drop _)) (by rw [Lm_app, Lm_app, Lm_one]; omega)
      by_cases k9 : K = 9
      · refine cut_self ?_
        walk_at "vs"
        refine ite_no k4 (cut_self ?_)
        walk_at "vs"
        refine ite_no k5 (cut_self ?_)
        walk_at "vs"
        refine ⟨by decide, rfl, ite_no (by rw [in678, decide_eq_false k6]; exact fun z => nomatch z) (cut_self ?_)⟩
        walk_at "vs"
        refine ite_yes k9 ⟨by decide, by omega, ?_⟩
        rw [show List.map D.str ps ++ [D.str (Str.ofString "")] = (ps ++ [Str.ofString ""]).map D.str by rw [List.map_append]; rfl]
        simp only [aJoin]
        walk_at "vs"
        rw [c1, c2]
        exact tail (ps ++ [Str.ofString ""]) (W0.app (WG.one ⟨by decide +kernel, by decide +kernel⟩)) (by rw [Lm_app, Lm_one, show (Str.ofString "").length = 0 from rfl]; omega)
      · refine cut_self ?_
        walk_at "vs"
        refine ite_no k4 (cut_self ?_)
        walk_at "vs"
        refine ite_no k5 (cut_self ?_)
        walk_at "vs"
        refine ⟨by decide, rfl, ite_no (by rw [in678, decide_eq_false k6]; exact fun z => nomatch z) (cut_self ?_)⟩
        walk_at "vs"
        refine ite_no k9 ?_
        simp only [aJoin]
        walk_at "vs"
        rw [c1, c2]
        exact tail (ps) (W0) (by omega)
  · refine ite_no k2 ?_
    by_cases k3 : K = 3
    · refine ite_yes k3 ⟨by rw [List.length_map, List.length_map]; omega, by decide, by rw [List.length_append, List.length_map, List.length_map]; omega, ?_⟩
      have := h (rs.take k ++ rs.drop (k + 1) ++ [r]) (by rw [List.length_append, List.length_append, List.length_singleton]; omega) (app (app m1 m2) (rl_cons mr rl_nil))
      rw [List.map_append, List.map_append] at this
      exact this
    refine ite_no k3 ?_
    have d1 : cutD (ps.map D.str) none (some (j : Int)) = (ps.take j).map D.str := cut_takeF D.str ps j
    have d2 : cutD (ps.map D.str) (some ((j : Int) + 1)) none = (ps.drop (j + 1)).map D.str := cut_dropF D.str ps (j + 1)
    have d3 : cutD (ps.map D.str) (some (j : Int)) none = (ps.drop j).map D.str := cut_dropF D.str ps j
    have wat : ixD (ps.map D.str) (j : Int) = some (.str w) := ixD_map D.str (by omega) (by rw [Int.toNat_natCast]; exact hw)
    have e1 : (ps.take j).length = j := by rw [List.length_take]; omega
    have e2 : (ps.drop (j + 1)).length = ps.length - (j + 1) := List.length_drop
    have e3 : (ps.drop j).length = ps.length - j := List.length_drop
    have t1 := Lm_take_drop ps j
    have t2 := Lm_take_drop (ps.drop j) 1
    have t3 := Lm_take_drop ps (j + 1)
    have tw : Lm (ps.take (j + 1)) = Lm (ps.take j) + (w.length + 1) := by
      rw [List.take_succ, hw, Lm_app]
      exact congrArg _ (Lm_one w)
    have Wone : ∀ {x : Str}, x ∈ ps → WG [x] := fun hx => WG.one (W0 _ hx)
    have kB : (Str.ofString " ").length = 1 := by decide +kernel
    have lt1 := lmt k
    have ld1 := lmd (k + 1)
    have tail : ∀ ws : List Str, WG ws → Lm ws ≤ 2 * n + 12 → ∃ ys : List Str, some (List.map D.str ws) = some (List.map D.str ys) ∧ (List.map (fun x => x.length) ys).sum + ys.length * (Str.ofString " ").length ≤ 1000000 ∧ 0 + 1 ≤ 1000000 ∧ (List.map D.str (List.take k rs)).length + (0 + 1) ≤ 1000000 ∧ (List.map D.str (List.take k rs) ++ [D.str (Txt.join (Str.ofString " ") ys)]).length + (List.map D.str (List.drop (k + 1) rs)).length ≤ 1000000 ∧ P (W.fr (M.fl (List.map D.str (List.take k rs) ++ [D.str (Txt.join (Str.ofString " ") ys)] ++ List.map D.str (List.drop (k + 1) rs)))) :=
      fun ws q1 q2 => ⟨ws, rfl, by rw [kB, Nat.mul_one]; show Lm ws ≤ _; omega, by decide, by rw [List.length_map]; omega, by rw [List.length_append, List.length_map, List.length_map, List.length_singleton]; omega, fin ws q1 q2⟩
    by_cases k4 : K = 4
    · refine cut_self ?_
      walk_at "vs"
      refine ite_yes k4 ?_
      rw [d1, d2, ← List.map_append]
      refine ⟨by simp only [List.length_map]; omega, cut_self ?_⟩
      walk_at "vs"
      refine ite_no (by omega) (cut_self ?_)
      walk_at "vs"
      refine ⟨by decide, rfl, ite_no (by rw [in678, decide_eq_false (by omega)]; exact fun z => nomatch z) (cut_self ?_)⟩
      walk_at "vs"
      refine ite_no (by omega) ?_
      simp only [aJoin]
      walk_at "vs"
      rw [c1, c2]
      exact tail (ps.take j ++ ps.drop (j + 1)) ((W0.take _).app (W0.drop _)) (by rw [Lm_app]; omega)
    by_cases k5 : K = 5
    · refine cut_self ?_
      walk_at "vs"
      refine ite_no k4 (cut_self ?_)
      walk_at "vs"
      rw [d1, d3, wat]
      refine ite_yes k5 ⟨by decide, by rw [List.length_map]; omega, by rw [List.length_append, List.length_map, List.length_map, List.length_singleton]; omega, ?_⟩
      rw [show List.map D.str (ps.take j) ++ [D.str w] ++ List.map D.str (ps.drop j) = (ps.take j ++ [w] ++ ps.drop j).map D.str by rw [List.map_append, List.map_append]; rfl]
      refine cut_self ?_
      walk_at "vs"
      refine ⟨by decide, rfl, ite_no (by rw [in678, decide_eq_false (by omega)]; exact fun z => nomatch z) (cut_self ?_)⟩
      walk_at "vs"
      refine ite_no (by omega) ?_
      simp only [aJoin]
      walk_at "vs"
      rw [c1, c2]
      exact tail (ps.take j ++ [w] ++ ps.drop j) (((W0.take _).app (Wone hwm)).app (W0.drop _)) (by rw [Lm_app, Lm_app, Lm_one]; omega)
    by_cases k6 : K = 6 ∨ K = 7 ∨ K = 8
    · refine cut_self ?_
      walk_at "vs"
      refine ite_no k4 (cut_self ?_)
      walk_at "vs"
      refine ite_no k5 (cut_self ?_)
      walk_at "vs"
      refine ⟨by decide, rfl, ite_yes (by rw [in678]; exact decide_eq_true k6) ⟨n0, n1, n2, n3, rfl, fun x hx => ?_⟩⟩
      have ej2 : ixN ps.length (j : Int) = some j := by
        unfold ixN
        rw [if_pos (show 0 ≤ (j : Int) by omega), if_pos (show (j : Int) < ps.length by omega), Int.toNat_natCast]
      simp only []
      rw [ej2]
      simp only []
      have es : (ps.map D.str).set j (.str x) = (ps.take j ++ [x] ++ ps.drop (j + 1)).map D.str := by
        rw [← List.map_set, List.set_eq_take_append_cons_drop, if_pos hj, List.append_assoc]
        rfl
      rw [es]
      have lx := hx.len
      refine cut_self ?_
      walk_at "vs"
      refine ite_no (by omega) ?_
      simp only [aJoin]
      walk_at "vs"
      rw [c1, c2]
      exact tail (ps.take j ++ [x] ++ ps.drop (j + 1)) (((W0.take _).app (WG.one ⟨hx.ok, hx.nf⟩)).app (W0.drop _)) (by rw [Lm_app, Lm_app, Lm_one]; omega)
    by_cases k9 : K = 9
    · refine cut_self ?_
      walk_at "vs"
      refine ite_no k4 (cut_self ?_)
      walk_at "vs"
      refine ite_no k5 (cut_self ?_)
      walk_at "vs"
      refine ⟨by decide, rfl, ite_no (by rw [in678, decide_eq_false k6]; exact fun z => nomatch z) (cut_self ?_)⟩
      walk_at "vs"
      refine ite_yes k9 ⟨by decide, by omega, ?_⟩
      rw [show List.map D.str ps ++ [D.str (Str.ofString "")] = (ps ++ [Str.ofString ""]).map D.str by rw [List.map_append]; rfl]
      simp only [aJoin]
      walk_at "vs"
      rw [c1, c2]
      exact tail (ps ++ [Str.ofString ""]) (W0.app (WG.one ⟨by decide +kernel, by decide +kernel⟩)) (by rw [Lm_app, Lm_one, show (Str.ofString "").length = 0 from rfl]; omega)
    · refine cut_self ?_
      walk_at "vs"
      refine ite_no k4 (cut_self ?_)
      walk_at "vs"
      refine ite_no k5 (cut_self ?_)
      walk_at "vs"
      refine ⟨by decide, rfl, ite_no (by rw [in678, decide_eq_false k6]; exact fun z => nomatch z) (cut_self ?_)⟩
      walk_at "vs"
      refine ite_no k9 ?_
      simp only [aJoin]
      walk_at "vs"
      rw [c1, c2]
      exact tail (ps) (W0) (by omega)
end Vl
set_option maxHeartbeats 2000000
local macro_rules | `(tactic| walk_at "vs") => `(tactic| simp only [Vl.aSeq, Vl.aFor_eq, Vl.aIf, Vl.aB, Vl.aBin, Vl.aUn, Vl.aV, Vl.slotW, Vl.gt_z, Vl.gt_s, Vl.aCB, Vl.aCall, Vl.aCons, Vl.aNil, Vl.argW, Vl.dLt_eq, Vl.dLe_eq, Vl.dGt_eq, Vl.dGe_eq, Vl.dI0, Vl.dI, Vl.dAdd, Vl.dSub_eq, Vl.dMul, Vl.dDiv_eq, Vl.dMod_eq, Vl.dPow_eq, Vl.dShl_eq, Vl.dNeg, Vl.dNot, Vl.dIsN, Vl.dNotN, Vl.dEq, Vl.dNe, Vl.dIn, Vl.dIx, Vl.fLen_lst, Vl.fLen_tup, Vl.fLen_ow, Vl.fLen_bw, Vl.fLen_scr, Vl.fLen_str, Vl.fInt_int, Vl.fInt_bl, Vl.fAbs_int, Vl.fMax_int, Vl.fMin_int, Vl.fGcd_int, Vl.fLcm_int, Vl.fList_lst, Vl.fList_tup, Vl.fList_ow, Vl.fList_bw, Vl.fList_scr, Vl.seqC, Vl.lstC, Vl.itemsC, Vl.clW, Vl.W.toD, Vl.M.toD, Vl.clDs, Option.map_some, Option.map_none,
  Vl.aRet, Vl.aRetV, Vl.aRetN, Vl.aNext, Vl.aBreak, Vl.aCont, Vl.aC, Vl.aSet, Vl.aSetC, Vl.slotA, Vl.aDrop, Vl.aAsgG, Vl.agN, Vl.agT, Vl.agCons, Vl.agNil, Vl.iLst, Vl.iTup, Vl.iR1, Vl.iR2, Vl.aTup, Vl.aLst, Vl.aAnd, Vl.aOr, Vl.aNot, Vl.aAndV, Vl.aOrV, Vl.aIfE, Vl.aSl, Vl.aoS, Vl.aoN, Vl.aChain, Vl.aAugAdd, Vl.aAugSub, Vl.aMut, Vl.aMutS, Vl.mAppend, Vl.mPop, Vl.mPopAt, Vl.mReverse, Vl.tyM, Vl.aFrz, Vl.frz, Vl.aSetIx, Vl.aLc, Vl.wipeA, Vl.aYes,
  List.set_cons_zero, List.set_cons_succ, List.length_map, List.length_cons, List.length_nil, decide_eq_true_eq, Bool.not_true, Bool.not_false, if_true, if_false, Bool.false_eq_true, Vl.okD_int, Vl.okD_bl, Vl.okD_non, Vl.eqD_int, Vl.eqD_bl, Vl.eqD_non, true_and, and_true, Vl.snoc_int, Vl.aIsi, Vl.isi_bl_bool, Vl.isi_bl_int, Vl.isi_int_int, Vl.isi_int_bool, Vl.isi_non_int, Vl.isi_non_bool, Vl.isi_lst_list, Vl.isi_tup_list, Vl.isi_tup_tuple, Vl.isi_non_tuple, Vl.isi_non_list, Vl.isi_str_str, Vl.isi_lst_bool, Vl.isi_str_bool, Vl.isi_tup_bool, Vl.ixD_0, Vl.ixD_1, Vl.ixD_2, Vl.ixD_3, Vl.ixD_4, Vl.ixD_5, Vl.ixD_6, Vl.ixD_7, Vl.ixD_8, Vl.ixD_9, Vl.ixD_10, Vl.ixD_11, Vl.aFld, Vl.aMeth, Vl.aMake, Vl.aMakeK, Vl.mInsert, Vl.aIndex, Vl.fMax1_eq, Vl.fSorted_eq, List.getElem?_cons_zero, List.getElem?_cons_succ, List.cons_append, List.nil_append, Vl.aPar, Vl.aIsO, Vl.dNeS, Vl.aDNew, Vl.dEqO, Vl.aDGet, Vl.aDIx, Vl.dInD, Vl.kidsW, Vl.keyO, Vl.keyF, Vl.keysF, Vl.getK_map, Vl.M.toDs, Vl.refM, Vl.bwM, Vl.owM, Vl.aMakeO, Vl.aSetX, Vl.aSetCX, Vl.aDropX, Vl.aRetX, Vl.aAsgGX, Vl.aIfX, Vl.xP, Vl.tP, Vl.aBX, Vl.aAndX, Vl.aOrX, Vl.aNotX, Vl.aBinX, Vl.aCallL, Vl.aMethL, Vl.alHere, Vl.alCons, Vl.setP, Vl.apV, Vl.apFld, Vl.apIx, Vl.apKey, Vl.aMutP, Vl.aFSet, Vl.aDPutP, Vl.kidW, Vl.putM, Vl.dctM, Vl.aLstO, Vl.aoCons, Vl.aoNil, Vl.aDisp, Vl.dispGo, Vl.iLstG, Vl.xMut, Vl.fLenD, Vl.one, Vl.mRemove, Vl.apW, Vl.allW_nil, Vl.allW_cons, Vl.anHere, Vl.anCons, Vl.aCallN, Vl.aCallF, Vl.clAlls, Vl.clAll, Vl.flatW, Vl.flatD, Vl.flatDs, Bool.and_true, Bool.true_and, Vl.aDNewM, Vl.fSortT_eq, Vl.fSortDT_eq, Vl.fMinD_eq, Vl.fMaxD_eq, Vl.aForX_eq, Vl.aCallK, Vl.aCallD, Vl.xSortPop, Vl.dEqS, Vl.aSlT, Vl.aClE, Vl.aLenSet, Vl.aMakeD])
namespace Vl
open PySem PySem.Spec PyProof.Rows L2
def c_law : Ct := fun ws Q => ∃ ns : List Int, ws = [.cl (.scr ns)] ∧ ns.length ≤ 63 ∧ Q (.cl (.bl true))
theorem l_law : ∀ ws P, c_law ws P → ws.length = 1 := by rintro ws P ⟨c, rfl, _⟩; rfl
theorem len_5' {α : Type} {xs : List α} (h : xs.length = 5) : ∃ a b c d e, xs = [a, b, c, d, e] := match xs, h with
  | [a, b, c, d, e], _ => ⟨a, b, c, d, e, rfl⟩
theorem len_4' {α : Type} {xs : List α} (h : xs.length = 4) : ∃ a b c d, xs = [a, b, c, d] := match xs, h with
  | [a, b, c, d], _ => ⟨a, b, c, d, rfl⟩
theorem joinL_last : ∀ (ps : List (List Nat)) (p : List Nat), TL.joinL [10] (ps ++ [p]) = (ps.map fun q => q ++ [10]).flatten ++ p
  | [], p => by simp [TL.joinL]
  | [q], p => by simp [TL.joinL]
  | q :: q2 :: r, p => by
    have ih := joinL_last (q2 :: r) p
    show q ++ ([10] ++ TL.joinL [10] ((q2 :: r) ++ [p])) = _
    rw [ih]
    simp
/-- the last line feed left out -/
theorem cut_text {rs : List Str} {x : Str} (h : ∀ r ∈ rs ++ [x], 10 ∉ TL.tl r) : Txt.split (cutS (textR (rs ++ [x])) none (some (((textR (rs ++ [x])).length : Int) - 1))) nl = rs ++ [x] := by
  have hl : (textR (rs ++ [x])).length = (textL rs ++ (TL.tl x ++ [10])).length := by rw [TL.len_tl, tl_textR, textL_snoc]
  have hl2 : (textL rs ++ (TL.tl x ++ [10])).length = (textL rs ++ TL.tl x).length + 1 := by rw [List.length_append, List.length_append, List.length_append, List.length_singleton]; omega
  have e : cutS (textR (rs ++ [x])) none (some (((textR (rs ++ [x])).length : Int) - 1)) = Txt.join nl (rs ++ [x]) := TL.ext_tl (by
    have e1 : HT.sIx (textR (rs ++ [x])).length 0 none = 0 := rfl
    have e2 : HT.sIx (textR (rs ++ [x])).length (textR (rs ++ [x])).length (some (((textR (rs ++ [x])).length : Int) - 1)) = (textR (rs ++ [x])).length - 1 := by
      unfold HT.sIx
      simp
      omega
    have e3 : TL.tl (cutS (textR (rs ++ [x])) none (some (((textR (rs ++ [x])).length : Int) - 1))) = ((TL.tl (textR (rs ++ [x]))).drop 0).take ((textR (rs ++ [x])).length - 1 - 0) := by
      unfold cutS
      rw [e1, e2]
    rw [e3, tl_textR, textL_snoc, hl, hl2, List.drop_zero, Nat.sub_zero, Nat.add_sub_cancel, ← List.append_assoc, List.take_left, tlj, tl_nl, List.map_append, show [x].map TL.tl = [TL.tl x] from rfl, joinL_last, List.map_map]
    rfl)
  rw [e]
  exact TL.split_join (y := nl) (s := 10) (S := []) tl_nl (by decide +kernel) (by simp) h
def DueR (o : Out) (d5 d6 : D) : Prop := (∃ p, o = .bad p ∧ d5 = .int p ∧ d6 = .non) ∨ (∃ N es, o = .good N es ∧ d5 = .non ∧ d6 = .tup [.int N.pr, .int N.er, .lst (N.ks.map kD), .lst (N.ls.map lnD), .lst (es.map entD)])
theorem due_r (o : Out) : ∃ d5 d6, dueD o = .tup [d5, d6] ∧ DueR o d5 d6 := by
  cases o with
  | bad p => exact ⟨_, _, rfl, .inl ⟨p, rfl, rfl, rfl⟩⟩
  | good N es => exact ⟨_, _, rfl, .inr ⟨N, es, rfl, rfl, rfl⟩⟩
/-- law: slots 0=_law_script 1=_law_rows_here 2=_law_numbers_here 3=_law_text 4=_law_row 5=_law_place 6=_law_due_here 7=_law_net 8=_law_plan 9=error -/
def a_law : AS :=
  aSeq (aSetC 1 (aCall c__law_rows (aCons (aCall c__law_draw (aCons (aCall c__law_cell (aCons (aV 0) (aCons (aC (.int 0)) (aNil)))) (aCons (aC (.int 5)) (aCons (aBin dShl (aC (.int 1)) (aC (.int 20))) (aNil))))) (aNil)))) (aSeq (aSetC 2 (aCall c__law_draw (aCons (aCall c__law_cell (aCons (aV 0) (aCons (aC (.int 1)) (aNil)))) (aCons (aC (.int 4)) (aCons (aBin dShl (aC (.int 1)) (aC (.int 20))) (aNil)))))) (aSeq (aSetC 1 (aCall c__law_spoilt (aCons (aV 1) (aCons (aV 2) (aNil))))) (aCut (aIf (aAnd (aB (aBin (dEq) (aBin dMod (aBin dDiv (aBin dIx (aV 2) (aC (.int 0))) (aC (.int 11))) (aC (.int 4))) (aC (.int 0)))) (aB (aBin (dGt) (aCB fLen1 (aCons (aV 1) (aNil))) (aC (.int 0))))) (aSetC 1 (aCall c__law_spoilt (aCons (aV 1) (aCons (aCall c__law_draw (aCons (aCall c__law_cell (aCons (aV 0) (aCons (aC (.int 2)) (aNil)))) (aCons (aC (.int 4)) (aCons (aBin dShl (aC (.int 1)) (aC (.int 20))) (aNil))))) (aNil))))) (aNext)) (aSeq (aSetC 3 (aJoin (aC (.str "")) (aCons (aLc (iLstG (aV 1)) (agN 4) (aYes) (aBin dAdd (aV 4) (aC (.str "\n"))) [4]) (aNil)))) (aSeq (aAsgG (aCall c__law_due (aCons (aV 1) (aNil))) (agT 2 (agCons (agN 5) (agCons (agN 6) (agNil))))) (aCut (aIf (aAnd (aB (aBin (dEq) (aBin dMod (aBin dDiv (aBin dIx (aV 2) (aC (.int 0))) (aC (.int 44))) (aC (.int 6))) (aC (.int 0)))) (aAnd (aB (aBin (dGt) (aCB fLen1 (aCons (aV 3) (aNil))) (aC (.int 0)))) (aB (aBin (dGt) (aCB fLen1 (aCons (aBin dIx (aV 1) (aBin dSub (aCB fLen1 (aCons (aV 1) (aNil))) (aC (.int 1)))) (aNil))) (aC (.int 0)))))) (aSeq (aSetC 3 (aSlS (aV 3) (aoN) (aoS (aBin dSub (aCB fLen1 (aCons (aV 3) (aNil))) (aC (.int 1)))))) (aIf (aOr (aB (aBin (dIsN) (aV 5) (aC .non))) (aB (aBin (dGt) (aV 5) (aBin dSub (aCB fLen1 (aCons (aV 1) (aNil))) (aC (.int 1)))))) (aSeq (aSetC 5 (aBin dSub (aCB fLen1 (aCons (aV 1) (aNil))) (aC (.int 1)))) (aSetC 6 (aC .non))) (aNext))) (aNext)) (aSeq (aTryRd 9 c_read_text (aCons (aV 3) (aNil)) (agT 2 (agCons (agN 7) (agCons (agN 8) (agNil)))) 5) (aSeq (aIf (aOr (aB (aBin (dIsN) (aV 6) (aC .non))) (aOr (aB (aBin (dNe) (aFld 0 2 (aV 7)) (aBin dIx (aV 6) (aC (.int 0))))) (aOr (aB (aBin (dNe) (aFld 0 3 (aV 7)) (aBin dIx (aV 6) (aC (.int 1))))) (aOr (aB (aBin (dNe) (aFld 0 0 (aV 7)) (aBin dIx (aV 6) (aC (.int 2))))) (aB (aBin (dNe) (aFld 0 1 (aV 7)) (aBin dIx (aV 6) (aC (.int 3))))))))) (aRet (aC (.bl false))) (aNext)) (aRet (aBin (dEqS g_Stream 1 2) (aV 8) (aBin dIx (aV 6) (aC (.int 4)))))))))))))
theorem w_law : ∀ ws P, c_law ws P → a_law { nx := fun _ => P (.cl .non), rt := fun w _ => P w } (startA 10 ws) := by
  rintro ws P ⟨ns, rfl, hns, h⟩
  show a_law _ [.im (.scr ns), .non, .non, .non, .non, .non, .non, .non, .non, .non]
  unfold a_law
  walk_at "vs"
  refine ⟨ns, 0, rfl, by decide, ⟨by decide, by decide, by decide⟩, _, 5, _, rfl, by decide, by decide, by decide, fun xs hl hx => ?_⟩
  obtain ⟨a0, a1, a2, a3, a4, rfl⟩ := len_5' (show xs.length = 5 from hl)
  clear hl hx
  simp only [List.map_cons, List.map_nil]
  refine ⟨a0, a1, a2, a3, a4, rfl, fun rs0 hne0 hl0 hr0 => ?_⟩
  walk_at "vs"
  refine ⟨ns, 1, rfl, by decide, ⟨by decide, by decide, by decide⟩, _, 4, _, rfl, by decide, by decide, by decide, fun xs hl hx => ?_⟩
  obtain ⟨n0, n1, n2, n3, rfl⟩ := len_4' (show xs.length = 4 from hl)
  clear hl hx
  simp only [List.map_cons, List.map_nil]
  refine ⟨rs0, 40, n0, n1, n2, n3, rfl, hne0, by omega, hr0, by decide, fun rs1 hl1 hr1 => ?_⟩
  walk_at "vs"
  refine cut_by (fun δ => ∃ rs : List Str, δ = [.im (.scr ns), .im (.lst (rs.map .str)), .im (.lst [.int n0, .int n1, .int n2, .int n3]), .non, .non, .non, .non, .non, .non, .non] ∧ rs.length ≤ 12 ∧ ∀ r ∈ rs, RowL 200 r) ?_ ?_
  · have fin0 : ∀ r ∈ rs1, RowL 200 r := fun r hr => (hr1 r hr).mono (by decide)
    walk_at "vs"
    refine ⟨by decide, by decide, ?_⟩
    split
    · split
      · rename_i hp
        refine ⟨ns, 2, rfl, by decide, ⟨by decide, by decide, by decide⟩, _, 4, _, rfl, by decide, by decide, by decide, fun xs hl hx => ?_⟩
        obtain ⟨b0, b1, b2, b3, rfl⟩ := len_4' (show xs.length = 4 from hl)
        clear hl hx
        simp only [List.map_cons, List.map_nil]
        refine ⟨rs1, 2 * 40 + 12, b0, b1, b2, b3, rfl, List.length_pos_iff.mp (by omega), by omega, hr1, by decide, fun rs2 hl2 hr2 => ?_⟩
        exact ⟨rs2, rfl, by omega, fun r hr => (hr2 r hr).mono (by decide)⟩
      · exact ⟨rs1, rfl, by omega, fin0⟩
    · exact ⟨rs1, rfl, by omega, fin0⟩
  rintro δ ⟨rs, rfl, hl, hrs⟩
  have hrS : ∀ r ∈ rs, RowS r := fun r hr => ⟨(hrs r hr).ok, by have := (hrs r hr).len; omega⟩
  walk_at "vs"
  simp only [aJoin]
  walk_at "vs"
  have knl : nl.length = 1 := by decide +kernel
  refine lc_all D.str (fun r => D.str (r ++ nl)) rs (by omega) (fun r hr K hK => ?_) ?_
  · have := (hrs r hr).len
    walk_at "vs"
    exact ⟨by rw [show (Str.ofString "\n").length = 1 from knl]; omega, hK⟩
  have hts : ∀ r ∈ rs, 10 ∉ TL.tl r := fun r hr => (hrs r hr).nf
  have htl := textR_len (rs := rs) (n := 200) fun r hr => (hrs r hr).len
  have htl2 : rs.length * (200 + 1) ≤ 12 * 201 := Nat.mul_le_mul_right _ hl
  refine ⟨rs.map fun r => r ++ nl, by rw [List.map_map]; rfl, ?_, ?_⟩
  · rw [show (Str.ofString "").length = 0 from rfl, Nat.mul_zero, Nat.add_zero]
    have e : (textR rs).length = ((rs.map fun r => r ++ nl).map fun x => x.length).sum := by
      rw [← textR_join, TL.len_tl, tlj, show TL.tl (Str.ofString "") = [] by decide +kernel, joinL_nil, List.length_flatten, List.map_map]
      congr 1
    rw [← e]
    omega
  rw [textR_join]
  refine ⟨rs, rfl, hrS, by omega, ?_⟩
  obtain ⟨d5, d6, hd, hdr⟩ := due_r (rdAll rs)
  rw [hd]
  simp only []
  refine ⟨rfl, trivial, ?_⟩
  refine cut_by (fun δ => ∃ (t : Str) (rs' : List Str) (x : Str) (cut : Bool) (d5 d6 : D), δ = [.im (.scr ns), .im (.lst (rs.map .str)), .im (.lst [.int n0, .int n1, .int n2, .int n3]), .im (.str t), .non, .im d5, .im d6, .non, .non, .non] ∧ (Txt.split t nl = rs' ++ [x] ∧ (x = Str.ofString "" ↔ cut = false) ∧ PyData.strOk x = true ∧ t.length + 2 ≤ 1000000 ∧ (∀ y ∈ rs', RowS y) ∧ rs'.length ≤ 13) ∧ DueR (outP cut rs') d5 d6) ?_ ?_
  · have plain : Txt.split (textR rs) nl = rs ++ [Str.empty] ∧ (Str.empty = Str.ofString "" ↔ false = false) ∧ PyData.strOk Str.empty = true ∧ (textR rs).length + 2 ≤ 1000000 ∧ (∀ y ∈ rs, RowS y) ∧ rs.length ≤ 13 := ⟨textR_split hts, ⟨fun _ => rfl, fun _ => rfl⟩, by decide +kernel, by omega, hrS, by omega⟩
    walk_at "vs"
    refine ⟨by decide, by decide, ?_⟩
    have same : ∃ (t : Str) (rs' : List Str) (x : Str) (cut : Bool) (e5 e6 : D), [AV.im (D.scr ns), AV.im (D.lst (rs.map D.str)), AV.im (D.lst [D.int n0, D.int n1, D.int n2, D.int n3]), AV.im (D.str (textR rs)), AV.non, AV.im d5, AV.im d6, AV.non, AV.non, AV.non] = [.im (.scr ns), .im (.lst (rs.map .str)), .im (.lst [.int n0, .int n1, .int n2, .int n3]), .im (.str t), .non, .im e5, .im e6, .non, .non, .non] ∧ (Txt.split t nl = rs' ++ [x] ∧ (x = Str.ofString "" ↔ cut = false) ∧ PyData.strOk x = true ∧ t.length + 2 ≤ 1000000 ∧ (∀ y ∈ rs', RowS y) ∧ rs'.length ≤ 13) ∧ DueR (outP cut rs') e5 e6 := ⟨textR rs, rs, Str.empty, false, d5, d6, rfl, plain, hdr⟩
    by_cases c1 : n0 / 44 % 6 = 0
    case neg => exact ite_no c1 same
    refine ite_yes c1 ⟨by omega, ?_⟩
    by_cases c2 : 0 < ((textR rs).length : Int)
    case neg => exact ite_no c2 same
    refine ite_yes c2 ?_
    have hne : rs ≠ [] := fun z => by rw [z] at c2; exact absurd c2 (by decide)
    obtain ⟨rs', x, rfl⟩ : ∃ rs' x, rs = rs' ++ [x] := ⟨rs.dropLast, rs.getLast hne, (List.dropLast_concat_getLast hne).symm⟩
    have hxm : x ∈ rs' ++ [x] := by simp
    have hlx := (hrs x hxm).len
    have hat : ixD ((rs' ++ [x]).map D.str) (((rs' ++ [x]).length : Int) - 1) = some (.str x) := ixD_map D.str (by rw [List.length_append, List.length_singleton]; omega) (by
      rw [List.length_append, List.length_singleton, show (((rs'.length + 1 : Nat) : Int) - 1).toNat = rs'.length by omega, List.getElem?_append_right (Nat.le_refl _), Nat.sub_self]
      rfl)
    rw [hat]
    simp only [fLen1]
    walk_at "vs"
    refine ⟨by omega, ?_⟩
    by_cases c3 : 0 < (x.length : Int)
    case neg => exact ite_no c3 same
    refine ite_yes c3 ?_
    simp only [aSlS]
    walk_at "vs"
    refine ⟨by omega, by omega, ?_⟩
    have hsp := cut_text hts
    have hcl := cutS_length (textR (rs' ++ [x])) none (some (((textR (rs' ++ [x])).length : Int) - 1))
    have hxe : x = Str.ofString "" ↔ true = false := ⟨fun z => by rw [z] at c3; exact absurd c3 (by decide), fun z => nomatch z⟩
    have em : ((rs' ++ [x]).length : Int) - 1 = rs'.length := by rw [List.length_append, List.length_singleton]; omega
    have big : outP true rs' = .bad (capO rs'.length (rdAll (rs' ++ [x]))) := by unfold outP; rw [if_pos rfl, cap_all]
    have ok13 : rs'.length ≤ 13 := by rw [List.length_append] at hl; omega
    rw [em]
    rcases hdr with ⟨p, e1, rfl, rfl⟩ | ⟨N, es, e1, rfl, rfl⟩
    · by_cases c4 : (rs'.length : Int) < p
      · exact ite_yes c4 ⟨_, rs', x, true, _, _, rfl, ⟨hsp, hxe, (hrs x hxm).ok, by omega, fun y hy => hrS y (List.mem_append_left _ hy), ok13⟩, .inl ⟨_, big, by rw [e1]; exact congrArg D.int (if_pos c4).symm, rfl⟩⟩
      · exact ite_no c4 ⟨_, rs', x, true, _, _, rfl, ⟨hsp, hxe, (hrs x hxm).ok, by omega, fun y hy => hrS y (List.mem_append_left _ hy), ok13⟩, .inl ⟨_, big, by rw [e1]; exact congrArg D.int (if_neg c4).symm, rfl⟩⟩
    · exact ⟨_, rs', x, true, _, _, rfl, ⟨hsp, hxe, (hrs x hxm).ok, by omega, fun y hy => hrS y (List.mem_append_left _ hy), ok13⟩, .inl ⟨_, big, by rw [e1]; rfl, rfl⟩⟩
  rintro δ ⟨t, rs', x, cut, d5, d6, rfl, ⟨q1, q2, q3, q4, q5, q6⟩, hdr⟩
  unfold aTryRd
  refine ⟨by simp, ?_⟩
  walk_at "vs"
  refine ⟨t, rs', x, cut, rfl, q1, q2, q3, q4, q5, q6, fun N es ho => ?_, fun p ho => ?_⟩
  · rcases hdr with ⟨p, e1, _⟩ | ⟨N', es', e1, rfl, rfl⟩
    · rw [ho] at e1; cases e1
    rw [ho] at e1
    obtain ⟨rfl, rfl⟩ := Out.good.inj e1
    unfold netD
    walk_at "vs"
    have ek : okD (.lst (N.ks.map kD)) = true := okD_map (f := kD) (n := 0) (fun b => dep_str 0 _ (by cases b <;> decide +kernel)) (by decide)
    have el : okD (.lst (N.ls.map lnD)) = true := okD_map (f := lnD) (n := 1) (fun q => dep_tup fun x hx => by
      simp only [List.mem_cons, List.not_mem_nil, or_false] at hx
      rcases hx with rfl | rfl | rfl <;> exact dep_int _ _) (by decide)
    refine ite_no (by simp) (ite_no (by simp) ⟨ek, ek, ite_no (by rw [eqD_self ek]; exact fun z => nomatch z) ⟨el, el, ite_no (by rw [eqD_self el]; exact fun z => nomatch z) ⟨fun d hd => ?_, h⟩⟩⟩)
    obtain ⟨e, _, rfl⟩ := List.mem_map.mp hd
    exact lvD_ent e
  · rcases hdr with ⟨p', e1, rfl, _⟩ | ⟨N', es', e1, _⟩
    · rw [ho] at e1
      rw [Out.bad.inj e1]
    · rw [ho] at e1; cases e1
end Vl
namespace Vl
open PySem PySem.Spec PyProof.Rows L2
/-! ### the text -/
def topS (i : Nat) : Stmt := PySem.Challenge.pw_metronet_k21_texts_that_are_refused.main.body.getD i (.Pass ⟨0, 0, 0, 0⟩)
abbrev s_Stream___init__ : Stmt := inClass (topS 10) 0
abbrev N_Stream___init__ : List Str := ["self", "period", "length", "deadline", "path"]
theorem sc_Stream___init__ : FnScope N_Stream___init__ ["self", "period", "length", "deadline", "path"] (defScope s_Stream___init__) := ⟨rfl, rfl, rfl, by decide +kernel, rfl, by decide +kernel, by decide +kernel⟩
abbrev s_Stream___eq__ : Stmt := inClass (topS 10) 1
abbrev N_Stream___eq__ : List Str := ["self", "other"]
theorem sc_Stream___eq__ : FnScope N_Stream___eq__ ["self", "other"] (defScope s_Stream___eq__) := ⟨rfl, rfl, rfl, by decide +kernel, rfl, by decide +kernel, by decide +kernel⟩
abbrev s_Net___init__ : Stmt := inClass (topS 6) 0
abbrev N_Net___init__ : List Str := ["self", "kinds", "lines", "processing", "error"]
theorem sc_Net___init__ : FnScope N_Net___init__ ["self", "kinds", "lines", "processing", "error"] (defScope s_Net___init__) := ⟨rfl, rfl, rfl, by decide +kernel, rfl, by decide +kernel, by decide +kernel⟩
abbrev s__number : Stmt := topS 13
abbrev N__number : List Str := ["word", "least", "most", "place", "char"]
theorem sc__number : FnScope N__number ["word", "least", "most", "place"] (defScope s__number) := ⟨rfl, rfl, rfl, by decide +kernel, rfl, by decide +kernel, by decide +kernel⟩
abbrev s__words : Stmt := topS 14
abbrev N__words : List Str := ["row", "first", "many", "place", "words"]
theorem sc__words : FnScope N__words ["row", "first", "many", "place"] (defScope s__words) := ⟨rfl, rfl, rfl, by decide +kernel, rfl, by decide +kernel, by decide +kernel⟩
abbrev s_Net_delay : Stmt := inClass (topS 6) 1
abbrev N_Net_delay : List Str := ["self", "a", "b", "first", "second", "ticks"]
theorem sc_Net_delay : FnScope N_Net_delay ["self", "a", "b"] (defScope s_Net_delay) := ⟨rfl, rfl, rfl, by decide +kernel, rfl, by decide +kernel, by decide +kernel⟩
abbrev s__read_line : Stmt := topS 15
abbrev N__read_line : List Str := ["row", "net", "place", "words", "a", "b", "delay"]
theorem sc__read_line : FnScope N__read_line ["row", "net", "place"] (defScope s__read_line) := ⟨rfl, rfl, rfl, by decide +kernel, rfl, by decide +kernel, by decide +kernel⟩
abbrev s_ports_of : Stmt := topS 8
abbrev N_ports_of : List Str := ["path", "k"]
theorem sc_ports_of : FnScope N_ports_of ["path"] (defScope s_ports_of) := ⟨rfl, rfl, rfl, by decide +kernel, rfl, by decide +kernel, by decide +kernel⟩
abbrev s_is_path : Stmt := topS 7
abbrev N_is_path : List Str := ["net", "nodes", "node", "a", "b"]
theorem sc_is_path : FnScope N_is_path ["net", "nodes"] (defScope s_is_path) := ⟨rfl, rfl, rfl, by decide +kernel, rfl, by decide +kernel, by decide +kernel⟩
abbrev s__read_stream : Stmt := topS 16
abbrev N__read_stream : List Str := ["row", "net", "place", "words", "period", "length", "deadline", "path", "word", "offsets"]
theorem sc__read_stream : FnScope N__read_stream ["row", "net", "place"] (defScope s__read_stream) := ⟨rfl, rfl, rfl, by decide +kernel, rfl, by decide +kernel, by decide +kernel⟩
abbrev s__read_kinds : Stmt := topS 17
abbrev N__read_kinds : List Str := ["rows", "kinds"]
theorem sc__read_kinds : FnScope N__read_kinds ["rows"] (defScope s__read_kinds) := ⟨rfl, rfl, rfl, by decide +kernel, rfl, by decide +kernel, by decide +kernel⟩
abbrev s__read_rows : Stmt := topS 19
abbrev N__read_rows : List Str := ["rows", "words", "processing", "error", "kinds", "net", "at", "plan"]
theorem sc__read_rows : FnScope N__read_rows ["rows"] (defScope s__read_rows) := ⟨rfl, rfl, rfl, by decide +kernel, rfl, by decide +kernel, by decide +kernel⟩
abbrev s_read_text : Stmt := topS 18
abbrev N_read_text : List Str := ["text", "rows"]
theorem sc_read_text : FnScope N_read_text ["text"] (defScope s_read_text) := ⟨rfl, rfl, rfl, by decide +kernel, rfl, by decide +kernel, by decide +kernel⟩
abbrev s__law_draw : Stmt := topS 21
abbrev N__law_draw : List Str := ["_law_cell_here", "_law_many", "_law_bound", "_law_numbers_here", "_law_k", "_law_seed", "_law_mixed"]
theorem sc__law_draw : FnScope N__law_draw ["_law_cell_here", "_law_many", "_law_bound"] (defScope s__law_draw) := ⟨rfl, rfl, rfl, by decide +kernel, rfl, by decide +kernel, by decide +kernel⟩
abbrev s__law_cell : Stmt := topS 22
abbrev N__law_cell : List Str := ["_law_script", "_law_k"]
theorem sc__law_cell : FnScope N__law_cell ["_law_script", "_law_k"] (defScope s__law_cell) := ⟨rfl, rfl, rfl, by decide +kernel, rfl, by decide +kernel, by decide +kernel⟩
abbrev s__law_rows : Stmt := topS 23
abbrev N__law_rows : List Str := ["_law_numbers_here", "_law_rows_here", "_law_kinds"]
theorem sc__law_rows : FnScope N__law_rows ["_law_numbers_here"] (defScope s__law_rows) := ⟨rfl, rfl, rfl, by decide +kernel, rfl, by decide +kernel, by decide +kernel⟩
abbrev s__law_word : Stmt := topS 24
abbrev N__law_word : List Str := ["_law_numbers_here", "_law_words"]
theorem sc__law_word : FnScope N__law_word ["_law_numbers_here"] (defScope s__law_word) := ⟨rfl, rfl, rfl, by decide +kernel, rfl, by decide +kernel, by decide +kernel⟩
abbrev s__law_spoilt : Stmt := topS 25
abbrev N__law_spoilt : List Str := ["_law_rows_here", "_law_numbers_here", "_law_kind", "_law_at", "_law_words", "_law_which"]
theorem sc__law_spoilt : FnScope N__law_spoilt ["_law_rows_here", "_law_numbers_here"] (defScope s__law_spoilt) := ⟨rfl, rfl, rfl, by decide +kernel, rfl, by decide +kernel, by decide +kernel⟩
abbrev s__law_number : Stmt := topS 26
abbrev N__law_number : List Str := ["_law_word_here", "_law_low", "_law_high", "_law_sign"]
theorem sc__law_number : FnScope N__law_number ["_law_word_here", "_law_low", "_law_high"] (defScope s__law_number) := ⟨rfl, rfl, rfl, by decide +kernel, rfl, by decide +kernel, by decide +kernel⟩
abbrev s__law_joined : Stmt := topS 28
abbrev N__law_joined : List Str := ["_law_lines", "_law_a", "_law_b", "_law_line_here"]
theorem sc__law_joined : FnScope N__law_joined ["_law_lines", "_law_a", "_law_b"] (defScope s__law_joined) := ⟨rfl, rfl, rfl, by decide +kernel, rfl, by decide +kernel, by decide +kernel⟩
abbrev s__law_line : Stmt := topS 29
abbrev N__law_line : List Str := ["_law_row", "_law_kinds", "_law_lines", "_law_words", "_law_a", "_law_b", "_law_ticks"]
theorem sc__law_line : FnScope N__law_line ["_law_row", "_law_kinds", "_law_lines"] (defScope s__law_line) := ⟨rfl, rfl, rfl, by decide +kernel, rfl, by decide +kernel, by decide +kernel⟩
abbrev s__law_numbers : Stmt := topS 27
abbrev N__law_numbers : List Str := ["_law_text", "_law_low", "_law_high", "_law_numbers_here", "_law_word_here"]
theorem sc__law_numbers : FnScope N__law_numbers ["_law_text", "_law_low", "_law_high"] (defScope s__law_numbers) := ⟨rfl, rfl, rfl, by decide +kernel, rfl, by decide +kernel, by decide +kernel⟩
abbrev s__law_stream : Stmt := topS 30
abbrev N__law_stream : List Str := ["_law_row", "_law_kinds", "_law_lines", "_law_words", "_law_period", "_law_length", "_law_limit", "_law_path", "_law_offsets", "_law_k"]
theorem sc__law_stream : FnScope N__law_stream ["_law_row", "_law_kinds", "_law_lines"] (defScope s__law_stream) := ⟨rfl, rfl, rfl, by decide +kernel, rfl, by decide +kernel, by decide +kernel⟩
abbrev s__law_due : Stmt := topS 31
abbrev N__law_due : List Str := ["_law_rows_here", "_law_words", "_law_ticks", "_law_bound", "_law_kinds", "_law_lines", "_law_plan", "_law_stage", "_law_at", "_law_word_here", "_law_line_here", "_law_entry"]
theorem sc__law_due : FnScope N__law_due ["_law_rows_here"] (defScope s__law_due) := ⟨rfl, rfl, rfl, by decide +kernel, rfl, by decide +kernel, by decide +kernel⟩
abbrev s_law : Stmt := topS 32
abbrev N_law : List Str := ["_law_script", "_law_rows_here", "_law_numbers_here", "_law_text", "_law_row", "_law_place", "_law_due_here", "_law_net", "_law_plan", "error"]
theorem sc_law : FnScope N_law ["_law_script"] (defScope s_law) := ⟨rfl, rfl, rfl, by decide +kernel, rfl, by decide +kernel, by decide +kernel⟩
abbrev s_xi : Stmt := inClass (topS 3) 0
abbrev s_xm : Stmt := inClass (topS 2) 0
theorem sce_xi : ScE (defScope s_xi) ["self", "place"] := ⟨rfl, rfl, by decide +kernel, rfl, rfl, rfl, by decide +kernel⟩
theorem sce_xm : ScE (defScope s_xm) ["self", "place", "name"] := ⟨rfl, rfl, by decide +kernel, rfl, rfl, rfl, by decide +kernel⟩
abbrev fs_Net : List Str := ["kinds", "lines", "processing", "error"]
theorem nd_Net : fs_Net.Nodup := by decide
theorem no_Net_delay : ("delay" : Str) ∉ fs_Net := by decide
abbrev fs_Stream : List Str := ["period", "length", "deadline", "path"]
theorem nd_Stream : fs_Stream.Nodup := by decide
theorem no_Stream___eq__ : ("__eq__" : Str) ∉ fs_Stream := by decide
structure Tx (P : Program) (K : PySem.W.Frag) (mg : Str → Option Value) where
  C_InvalidText : Addr
  C_MetronetError : Addr
  f_xi : Addr
  d_xi : FuncData
  f_xm : Addr
  d_xm : FuncData
  xk : ExcK K C_InvalidText C_MetronetError
  SF : SupF P K "__init__" "InvalidText.__init__" s_xi f_xi d_xi C_InvalidText
  SF2 : SupF P K "__init__" "MetronetError.__init__" s_xm f_xm d_xm C_MetronetError
  xi : PySem.W.findIn K (.ref C_InvalidText) "__init__" = some (some (.ref f_xi))
  xt : PySem.W.typeIn K (.ref f_xi) = some (.type "function")
  xt2 : PySem.W.typeIn K (.ref f_xm) = some (.type "function")
  xb : Binds K d_xi ["self", "place"] []
  xb2 : ∀ (s' : Shared) (a b c : Value), K.In s'.heap → BindsTo s' d_xm ⟨[a, b, c], []⟩ [("self", a), ("place", b), ("name", c)]
  xm : mg "InvalidText" = some (.ref C_InvalidText)
  xmM : mg "MetronetError" = some (.ref C_MetronetError)
  xsup : PySem.W.ks_superIn K C_InvalidText C_InvalidText "__init__" = some (some (.ref f_xm))
  xmro : PySem.W.mroIn K C_InvalidText (.ref C_InvalidText) = some true
  xtop : (P.main.scope.names.lookup ("super" : Str)).isSome = false
  n_super : mg "super" = none
  xisC : ExcC K C_InvalidText
  xcl : (PySem.W.clsIn K C_InvalidText).isSome = true
  xfC : XfC K C_InvalidText
  xexm : PySem.W.exmOne K (.ref C_InvalidText) (.ref C_MetronetError) = some true
  xkit : PySem.W.kitOne K (.ref C_InvalidText) (.ref C_InvalidText) = some true
  C_Net : Addr
  cl_Net : Cls K C_Net
  n_Net_kinds : NoAttr K C_Net "kinds"
  n_Net_lines : NoAttr K C_Net "lines"
  n_Net_processing : NoAttr K C_Net "processing"
  n_Net_error : NoAttr K C_Net "error"
  C_Stream : Addr
  cl_Stream : Cls K C_Stream
  n_Stream_period : NoAttr K C_Stream "period"
  n_Stream_length : NoAttr K C_Stream "length"
  n_Stream_deadline : NoAttr K C_Stream "deadline"
  n_Stream_path : NoAttr K C_Stream "path"
  is_Stream : IsOk K C_Stream
  eo_Stream : EqOk K C_Stream
  f_Stream___init__ : Addr
  d_Stream___init__ : FuncData
  F_Stream___init__ : Fun K "__init__" "Stream.__init__" s_Stream___init__ f_Stream___init__ d_Stream___init__
  b_Stream___init__ : Binds K d_Stream___init__ ["self", "period", "length", "deadline", "path"] []
  mk_Stream : Mk K C_Stream f_Stream___init__
  mC_Stream : mg "Stream" = some (.ref C_Stream)
  f_Stream___eq__ : Addr
  d_Stream___eq__ : FuncData
  F_Stream___eq__ : Fun K "__eq__" "Stream.__eq__" s_Stream___eq__ f_Stream___eq__ d_Stream___eq__
  b_Stream___eq__ : Binds K d_Stream___eq__ ["self", "other"] []
  mt_Stream___eq__ : Meth K C_Stream "__eq__" f_Stream___eq__
  f_Net___init__ : Addr
  d_Net___init__ : FuncData
  F_Net___init__ : Fun K "__init__" "Net.__init__" s_Net___init__ f_Net___init__ d_Net___init__
  kb_Net___init__ : KBn K d_Net___init__ ["self", "kinds", "lines", "processing", "error"] 3 ["processing", "error"] (fun us ws => us ++ ws) (fun vs zs => vs ++ zs)
  mk_Net : Mk K C_Net f_Net___init__
  mC_Net : mg "Net" = some (.ref C_Net)
  f__number : Addr
  d__number : FuncData
  F__number : Fun K "_number" "_number" s__number f__number d__number
  b__number : Binds K d__number ["word", "least", "most", "place"] []
  m__number : mg "_number" = some (.ref f__number)
  f__words : Addr
  d__words : FuncData
  F__words : Fun K "_words" "_words" s__words f__words d__words
  b__words : Binds K d__words ["row", "first", "many", "place"] []
  m__words : mg "_words" = some (.ref f__words)
  f_Net_delay : Addr
  d_Net_delay : FuncData
  F_Net_delay : Fun K "delay" "Net.delay" s_Net_delay f_Net_delay d_Net_delay
  b_Net_delay : Binds K d_Net_delay ["self", "a", "b"] []
  mt_Net_delay : Meth K C_Net "delay" f_Net_delay
  f__read_line : Addr
  d__read_line : FuncData
  F__read_line : Fun K "_read_line" "_read_line" s__read_line f__read_line d__read_line
  b__read_line : Binds K d__read_line ["row", "net", "place"] []
  m__read_line : mg "_read_line" = some (.ref f__read_line)
  f_ports_of : Addr
  d_ports_of : FuncData
  F_ports_of : Fun K "ports_of" "ports_of" s_ports_of f_ports_of d_ports_of
  b_ports_of : Binds K d_ports_of ["path"] []
  m_ports_of : mg "ports_of" = some (.ref f_ports_of)
  f_is_path : Addr
  d_is_path : FuncData
  F_is_path : Fun K "is_path" "is_path" s_is_path f_is_path d_is_path
  b_is_path : Binds K d_is_path ["net", "nodes"] []
  m_is_path : mg "is_path" = some (.ref f_is_path)
  f__read_stream : Addr
  d__read_stream : FuncData
  F__read_stream : Fun K "_read_stream" "_read_stream" s__read_stream f__read_stream d__read_stream
  b__read_stream : Binds K d__read_stream ["row", "net", "place"] []
  m__read_stream : mg "_read_stream" = some (.ref f__read_stream)
  f__read_kinds : Addr
  d__read_kinds : FuncData
  F__read_kinds : Fun K "_read_kinds" "_read_kinds" s__read_kinds f__read_kinds d__read_kinds
  b__read_kinds : Binds K d__read_kinds ["rows"] []
  m__read_kinds : mg "_read_kinds" = some (.ref f__read_kinds)
  f__read_rows : Addr
  d__read_rows : FuncData
  F__read_rows : Fun K "_read_rows" "_read_rows" s__read_rows f__read_rows d__read_rows
  b__read_rows : Binds K d__read_rows ["rows"] []
  m__read_rows : mg "_read_rows" = some (.ref f__read_rows)
  f_read_text : Addr
  d_read_text : FuncData
  F_read_text : Fun K "read_text" "read_text" s_read_text f_read_text d_read_text
  b_read_text : Binds K d_read_text ["text"] []
  m_read_text : mg "read_text" = some (.ref f_read_text)
  f__law_draw : Addr
  d__law_draw : FuncData
  F__law_draw : Fun K "_law_draw" "_law_draw" s__law_draw f__law_draw d__law_draw
  b__law_draw : Binds K d__law_draw ["_law_cell_here", "_law_many", "_law_bound"] []
  m__law_draw : mg "_law_draw" = some (.ref f__law_draw)
  f__law_cell : Addr
  d__law_cell : FuncData
  F__law_cell : Fun K "_law_cell" "_law_cell" s__law_cell f__law_cell d__law_cell
  b__law_cell : Binds K d__law_cell ["_law_script", "_law_k"] []
  m__law_cell : mg "_law_cell" = some (.ref f__law_cell)
  f__law_rows : Addr
  d__law_rows : FuncData
  F__law_rows : Fun K "_law_rows" "_law_rows" s__law_rows f__law_rows d__law_rows
  b__law_rows : Binds K d__law_rows ["_law_numbers_here"] []
  m__law_rows : mg "_law_rows" = some (.ref f__law_rows)
  f__law_word : Addr
  d__law_word : FuncData
  F__law_word : Fun K "_law_word" "_law_word" s__law_word f__law_word d__law_word
  b__law_word : Binds K d__law_word ["_law_numbers_here"] []
  m__law_word : mg "_law_word" = some (.ref f__law_word)
  f__law_spoilt : Addr
  d__law_spoilt : FuncData
  F__law_spoilt : Fun K "_law_spoilt" "_law_spoilt" s__law_spoilt f__law_spoilt d__law_spoilt
  b__law_spoilt : Binds K d__law_spoilt ["_law_rows_here", "_law_numbers_here"] []
  m__law_spoilt : mg "_law_spoilt" = some (.ref f__law_spoilt)
  f__law_number : Addr
  d__law_number : FuncData
  F__law_number : Fun K "_law_number" "_law_number" s__law_number f__law_number d__law_number
  b__law_number : Binds K d__law_number ["_law_word_here", "_law_low", "_law_high"] []
  m__law_number : mg "_law_number" = some (.ref f__law_number)
  f__law_joined : Addr
  d__law_joined : FuncData
  F__law_joined : Fun K "_law_joined" "_law_joined" s__law_joined f__law_joined d__law_joined
  b__law_joined : Binds K d__law_joined ["_law_lines", "_law_a", "_law_b"] []
  m__law_joined : mg "_law_joined" = some (.ref f__law_joined)
  f__law_line : Addr
  d__law_line : FuncData
  F__law_line : Fun K "_law_line" "_law_line" s__law_line f__law_line d__law_line
  b__law_line : Binds K d__law_line ["_law_row", "_law_kinds", "_law_lines"] []
  m__law_line : mg "_law_line" = some (.ref f__law_line)
  f__law_numbers : Addr
  d__law_numbers : FuncData
  F__law_numbers : Fun K "_law_numbers" "_law_numbers" s__law_numbers f__law_numbers d__law_numbers
  b__law_numbers : Binds K d__law_numbers ["_law_text", "_law_low", "_law_high"] []
  m__law_numbers : mg "_law_numbers" = some (.ref f__law_numbers)
  f__law_stream : Addr
  d__law_stream : FuncData
  F__law_stream : Fun K "_law_stream" "_law_stream" s__law_stream f__law_stream d__law_stream
  b__law_stream : Binds K d__law_stream ["_law_row", "_law_kinds", "_law_lines"] []
  m__law_stream : mg "_law_stream" = some (.ref f__law_stream)
  f__law_due : Addr
  d__law_due : FuncData
  F__law_due : Fun K "_law_due" "_law_due" s__law_due f__law_due d__law_due
  b__law_due : Binds K d__law_due ["_law_rows_here"] []
  m__law_due : mg "_law_due" = some (.ref f__law_due)
  f_law : Addr
  d_law : FuncData
  F_law : Fun K "law" "law" s_law f_law d_law
  b_law : Binds K d_law ["_law_script"] []
  m_law : mg "law" = some (.ref f_law)
  n_int : mg "int" = none
  n_isinstance : mg "isinstance" = none
  n_len : mg "len" = none
  n_list : mg "list" = none
  n_min : mg "min" = none
  n_range : mg "range" = none
  n_set : mg "set" = none
  n_str : mg "str" = none
  g_MOST_NODES : ∃ u, mg "MOST_NODES" = some (.int 12 u)
def tb (P : Program) (w : World) {K : PySem.W.Frag} {mg : Str → Option Value} (t : Tx P K mg) : Tb := ⟨K, fun n => match n with | 0 => t.C_Net | 1 => t.C_Stream | _ => 0, fun n => match n with | 0 => fs_Net | 1 => fs_Stream | _ => [], P, w⟩
section
variable {P : Program} {w : World} {K : PySem.W.Frag} {mg : Str → Option Value} {base : Heap}
theorem ok_exc {CX : CXT} (t : Tx P K mg) : FnOk P w K mg base CX 1 t.f_xi t.d_xi ["self", "place"] (spInv t.C_InvalidText "InvalidText") :=
  fnok_inv (k := 0) t.SF t.SF2 t.xk rfl (fun _ => rfl) rfl (fun _ => rfl) sce_xi sce_xm rfl rfl rfl rfl (by rfl) t.n_super t.xtop t.xsup t.xmro t.xt2 t.xb2
theorem ok_Stream___init__ (t : Tx P K mg) : FnOk P w K mg base CX0 1 t.f_Stream___init__ t.d_Stream___init__ ["self", "period", "length", "deadline", "path"] (spI (tb P w t) 1 c_Stream___init__) :=
  fn_ini (T := tb P w t) (a := a_Stream___init__) t.F_Stream___init__ sc_Stream___init__ l_Stream___init__ (by show 4 < 1000; decide) (fun cdv A outer s H E hr =>
    i_cons (i_fld rfl t.cl_Stream t.n_Stream_period nd_Stream rfl rfl (e_v 1)) (i_cons (i_fld rfl t.cl_Stream t.n_Stream_length nd_Stream rfl rfl (e_v 2)) (i_cons (i_fld rfl t.cl_Stream t.n_Stream_deadline nd_Stream rfl rfl (e_v 3)) (i_one (i_fld rfl t.cl_Stream t.n_Stream_path nd_Stream rfl rfl (e_cty call_list_of c_list (by rfl) t.n_list (by decide +kernel) (a_cons (e_v 4) (a_nil)))))))) w_Stream___init__
theorem ok_Stream___eq__ (t : Tx P K mg) : FnOk P w K mg base CX0 3 t.f_Stream___eq__ t.d_Stream___eq__ ["self", "other"] (spC (tb P w t) c_Stream___eq__) :=
  fn_ok (T := tb P w t) (a := a_Stream___eq__) t.F_Stream___eq__ sc_Stream___eq__ l_Stream___eq__ (by decide) (fun cdv A outer s H E hr =>
    ss_cons (s_if (t_not (t_val (e_isO rfl t.is_Stream t.n_isinstance (by rfl) (by rfl) t.mC_Stream (e_v 1)))) (ss_one (s_ret (e_bl))) (ss_nil)) (ss_cons (s_if (PW.pt (w_or (t_cmp (op_neD hr.u64) b_ne (e_fld rfl t.cl_Stream t.n_Stream_period nd_Stream rfl (e_v 0)) (e_fld rfl t.cl_Stream t.n_Stream_period nd_Stream rfl (e_v 1)) (nomark _)) (w_or1 (t_cmp (op_neD hr.u64) b_ne (e_fld rfl t.cl_Stream t.n_Stream_length nd_Stream rfl (e_v 0)) (e_fld rfl t.cl_Stream t.n_Stream_length nd_Stream rfl (e_v 1)) (nomark _))))) (ss_one (s_ret (e_bl))) (ss_nil)) (ss_one (s_ret (e_and (e_cmp (op_eqD hr.u64) b_eq (e_fld rfl t.cl_Stream t.n_Stream_deadline nd_Stream rfl (e_v 0)) (e_fld rfl t.cl_Stream t.n_Stream_deadline nd_Stream rfl (e_v 1)) (nomark _)) (e_one (e_cmp (op_eqD hr.u64) b_eq (e_fld rfl t.cl_Stream t.n_Stream_path nd_Stream rfl (e_v 0)) (e_fld rfl t.cl_Stream t.n_Stream_path nd_Stream rfl (e_v 1)) (nomark _)))))))) w_Stream___eq__
theorem ok_Net___init__ (t : Tx P K mg) : FnOk P w K mg base CX0 1 t.f_Net___init__ t.d_Net___init__ ["self", "kinds", "lines", "processing", "error"] (spI (tb P w t) 0 c_Net___init__) :=
  fn_ini (T := tb P w t) (a := a_Net___init__) t.F_Net___init__ sc_Net___init__ l_Net___init__ (by show 4 < 1000; decide) (fun cdv A outer s H E hr =>
    i_cons (i_fld rfl t.cl_Net t.n_Net_kinds nd_Net rfl rfl (e_cty call_list_of c_list (by rfl) t.n_list (by decide +kernel) (a_cons (e_v 1) (a_nil)))) (i_cons (i_fld rfl t.cl_Net t.n_Net_lines nd_Net rfl rfl (e_cty call_list_of c_list (by rfl) t.n_list (by decide +kernel) (a_cons (e_v 2) (a_nil)))) (i_cons (i_fld rfl t.cl_Net t.n_Net_processing nd_Net rfl rfl (e_v 3)) (i_one (i_fld rfl t.cl_Net t.n_Net_error nd_Net rfl rfl (e_v 4)))))) w_Net___init__
theorem ok__number (t : Tx P K mg) : FnOk P w K mg base (L2.CX P w) 5 t.f__number t.d__number ["word", "least", "most", "place"] (spE (tb P w t) t.C_InvalidText "InvalidText" c__number) :=
  fn_okE (T := tb P w t) (a := a__number) t.F__number sc__number l__number (by decide) (fun ex cdv A outer s H E hr tk po =>
    have hp := passes_call tk (fun _ _ _ _ h => h)
    ss_cons (s_if (PW.pt (w_or (t_cmp op_gt b_gt (e_cb call_lenAll c_len (by rfl) t.n_len (by decide +kernel) (a_cons (e_v 0) (a_nil))) (e_int) (nomark _)) (w_or (t_cmp (op_eqD hr.u64) b_eq (e_v 0) (e_str) (nomark _)) (w_or1 (PW.pt (w_and (t_cmp op_gt b_gt (e_cb call_lenAll c_len (by rfl) t.n_len (by decide +kernel) (a_cons (e_v 0) (a_nil))) (e_int) (nomark _)) (w_and1 (t_cmp (op_eqD hr.u64) b_eq (e_ixC (e_v 0) (e_int) (fun _ _ => rfl)) (e_str) (nomark _))))))))) (ss_one (s_raise (CX := CX0) rfl tk t.xk.ox t.xi t.xt (ok_exc t) (hr.mono (by decide)) t.xb (by rfl) t.xm (e_v 3))) (ss_nil)) (ss_cons (s_for po rfl (i_strA (e_v 0)) (g_name (i := 4) sc__number.nd rfl (by first | exact .inl rfl | exact .inr rfl)) (ss_one (s_if (t_cmp op_notInC b_notInC (e_v 4) (e_str) (by rfl)) (ss_one (s_raise (CX := CX0) rfl tk t.xk.ox t.xi t.xt (ok_exc t) (hr.mono (by decide)) t.xb (by rfl) t.xm (e_v 3))) (ss_nil)))) (ss_cons (s_if (t_not (t_chain op_le op_le (e_v 1) (e_cty call_int_str c_intS (by rfl) t.n_int (by decide +kernel) (a_cons (e_v 0) (a_nil))) (e_v 2))) (ss_one (s_raise (CX := CX0) rfl tk t.xk.ox t.xi t.xt (ok_exc t) (hr.mono (by decide)) t.xb (by rfl) t.xm (e_v 3))) (ss_nil)) (ss_one (s_ret (e_cty call_int_str c_intS (by rfl) t.n_int (by decide +kernel) (a_cons (e_v 0) (a_nil)))))))) w__number
theorem ok__words (t : Tx P K mg) : FnOk P w K mg base (L2.CX P w) 5 t.f__words t.d__words ["row", "first", "many", "place"] (spE (tb P w t) t.C_InvalidText "InvalidText" c__words) :=
  fn_okE (T := tb P w t) (a := a__words) t.F__words sc__words l__words (by decide) (fun ex cdv A outer s H E hr tk po =>
    have hp := passes_call tk (fun _ _ _ _ h => h)
    ss_cons (s_setC (i := 4) sc__words.nd rfl (by first | exact .inl rfl | exact .inr rfl) (e_split (pe_bm PySem.F.plainAttrs_str PySem.F.slot_str_split PySem.F.type_str_split mt_split (e_v 0) (a_cons (e_str) (a_nil))))) (ss_cons (s_if (PW.pt (w_or (t_cmp (op_neD hr.u64) b_ne (e_ix rfl (e_v 4) (e_int) (fun _ _ => rfl)) (e_v 1) (nomark _)) (w_or1 (t_cmp (op_neD hr.u64) b_ne (e_cb call_lenAll c_len (by rfl) t.n_len (by decide +kernel) (a_cons (e_v 4) (a_nil))) (e_v 2) (nomark _))))) (ss_one (s_raise (CX := CX0) rfl tk t.xk.ox t.xi t.xt (ok_exc t) (hr.mono (by decide)) t.xb (by rfl) t.xm (e_v 3))) (ss_nil)) (ss_one (s_ret (e_sl rfl (e_v 4) (o_some (e_int)) (o_none)))))) w__words
theorem ok_Net_delay (t : Tx P K mg) : FnOk P w K mg base CX0 1 t.f_Net_delay t.d_Net_delay ["self", "a", "b"] (spC (tb P w t) c_Net_delay) :=
  fn_ok (T := tb P w t) (a := a_Net_delay) t.F_Net_delay sc_Net_delay l_Net_delay (by decide) (fun cdv A outer s H E hr =>
    ss_cons (s_for PassesOwn.never rfl (i_lst rfl (e_fld rfl t.cl_Net t.n_Net_lines nd_Net rfl (e_v 0))) (g_tup rfl (g_cons (g_name (i := 3) sc_Net_delay.nd rfl (by first | exact .inl rfl | exact .inr rfl)) (g_cons (g_name (i := 4) sc_Net_delay.nd rfl (by first | exact .inl rfl | exact .inr rfl)) (g_cons (g_name (i := 5) sc_Net_delay.nd rfl (by first | exact .inl rfl | exact .inr rfl)) (g_nil))))) (ss_one (s_if (PW.pt (w_or (t_cmp (op_eqD hr.u64) b_eq (e_tup (a_cons (e_v 3) (a_cons (e_v 4) (a_nil)))) (e_tup (a_cons (e_v 1) (a_cons (e_v 2) (a_nil)))) (nomark _)) (w_or1 (t_cmp (op_eqD hr.u64) b_eq (e_tup (a_cons (e_v 3) (a_cons (e_v 4) (a_nil)))) (e_tup (a_cons (e_v 2) (a_cons (e_v 1) (a_nil)))) (nomark _))))) (ss_one (s_retV 5)) (ss_nil)))) (ss_one (s_ret (e_non)))) w_Net_delay
theorem ok__read_line (t : Tx P K mg) : FnOk P w K mg base (L2.CX P w) 6 t.f__read_line t.d__read_line ["row", "net", "place"] (spE (tb P w t) t.C_InvalidText "InvalidText" c__read_line) :=
  fn_okE (T := tb P w t) (a := a__read_line) t.F__read_line sc__read_line l__read_line (by decide) (fun ex cdv A outer s H E hr tk po =>
    have hp := passes_call tk (fun _ _ _ _ h => h)
    ss_cons (s_setC (i := 3) sc__read_line.nd rfl (by first | exact .inl rfl | exact .inr rfl) (e_callE hp (ok__words t) (hr.mono (by decide)) (by rfl) t.m__words t.F__words.kp t.b__words (a_cons (e_v 0) (a_cons (e_str) (a_cons (e_int) (a_cons (e_v 2) (a_nil))))))) (ss_cons (s_setC (i := 4) sc__read_line.nd rfl (by first | exact .inl rfl | exact .inr rfl) (e_callE hp (ok__number t) (hr.mono (by decide)) (by rfl) t.m__number t.F__number.kp t.b__number (a_cons (e_ix rfl (e_v 3) (e_int) (fun _ _ => rfl)) (a_cons (e_int) (a_cons (e_bin op_sub b_sub (e_cb call_lenAll c_len (by rfl) t.n_len (by decide +kernel) (a_cons (e_fld rfl t.cl_Net t.n_Net_kinds nd_Net rfl (e_v 1)) (a_nil))) (e_int)) (a_cons (e_v 2) (a_nil))))))) (ss_cons (s_setC (i := 5) sc__read_line.nd rfl (by first | exact .inl rfl | exact .inr rfl) (e_callE hp (ok__number t) (hr.mono (by decide)) (by rfl) t.m__number t.F__number.kp t.b__number (a_cons (e_ix rfl (e_v 3) (e_int) (fun _ _ => rfl)) (a_cons (e_int) (a_cons (e_bin op_sub b_sub (e_cb call_lenAll c_len (by rfl) t.n_len (by decide +kernel) (a_cons (e_fld rfl t.cl_Net t.n_Net_kinds nd_Net rfl (e_v 1)) (a_nil))) (e_int)) (a_cons (e_v 2) (a_nil))))))) (ss_cons (s_setC (i := 6) sc__read_line.nd rfl (by first | exact .inl rfl | exact .inr rfl) (e_callE hp (ok__number t) (hr.mono (by decide)) (by rfl) t.m__number t.F__number.kp t.b__number (a_cons (e_ix rfl (e_v 3) (e_int) (fun _ _ => rfl)) (a_cons (e_int) (a_cons (e_int) (a_cons (e_v 2) (a_nil))))))) (ss_cons (s_if (PW.pt (w_or (t_cmp (op_eqD hr.u64) b_eq (e_v 4) (e_v 5) (nomark _)) (w_or1 (t_cmp op_notN1 b_notN (e_meth t.cl_Net t.mt_Net_delay (ok_Net_delay t) (hr.mono (by decide)) t.b_Net_delay no_Net_delay (e_v 1) (a_cons (e_v 4) (a_cons (e_v 5) (a_nil)))) (e_non) (nomark _))))) (ss_one (s_raise (CX := CX0) rfl tk t.xk.ox t.xi t.xt (ok_exc t) (hr.mono (by decide)) t.xb (by rfl) t.xm (e_v 2))) (ss_nil)) (ss_one (s_ret (e_tup (a_cons (e_v 4) (a_cons (e_v 5) (a_cons (e_v 6) (a_nil)))))))))))) w__read_line
theorem ok_ports_of (t : Tx P K mg) : FnOk P w K mg base CX0 1 t.f_ports_of t.d_ports_of ["path"] (spC (tb P w t) c_ports_of) :=
  fn_ok (T := tb P w t) (a := a_ports_of) t.F_ports_of sc_ports_of l_ports_of (by decide) (fun cdv A outer s H E hr =>
    ss_one (s_ret (e_lcG (own := [("k", 1)]) rfl sc_ports_of.nd (i_toG (i_r1 (by rfl) t.n_range (a_cons (e_bin op_sub b_sub (e_cb call_lenAll c_len (by rfl) t.n_len (by decide +kernel) (a_cons (e_v 0) (a_nil))) (e_int)) (a_nil)))) (blkOk_by (own := [("k", 1)]) (N := N_ports_of) (sc := defScope s_ports_of) (by decide +kernel)) (by decide) (fun _ _ _ _ _ => g_name (i := 1) sc_ports_of.nd rfl (by first | exact .inl rfl | exact .inr rfl)) (fun _ _ _ _ _ => ts_nil) (fun _ _ _ _ _ => e_tup (a_cons (e_ix rfl (e_v 0) (e_v 1) (fun _ _ => rfl)) (a_cons (e_ix rfl (e_v 0) (e_bin op_addAll b_add (e_v 1) (e_int)) (fun _ _ => rfl)) (a_nil))))))) w_ports_of
theorem ok_is_path (t : Tx P K mg) : FnOk P w K mg base CX0 2 t.f_is_path t.d_is_path ["net", "nodes"] (spC (tb P w t) c_is_path) :=
  fn_ok (T := tb P w t) (a := a_is_path) t.F_is_path sc_is_path l_is_path (by decide) (fun cdv A outer s H E hr =>
    ss_cons (s_if (PW.pt (w_or (t_cmp op_lt b_lt (e_cb call_lenAll c_len (by rfl) t.n_len (by decide +kernel) (a_cons (e_v 1) (a_nil))) (e_int) (nomark _)) (w_or1 (t_cmp (op_neD hr.u64) b_ne (e_lenSet rfl (by rfl) t.n_len (by rfl) t.n_set (e_v 1)) (e_cb call_lenAll c_len (by rfl) t.n_len (by decide +kernel) (a_cons (e_v 1) (a_nil))) (nomark _))))) (ss_one (s_ret (e_bl))) (ss_nil)) (ss_cons (s_if (PW.pt (w_or (t_cmp (op_neD hr.u64) b_ne (e_ix rfl (e_fld rfl t.cl_Net t.n_Net_kinds nd_Net rfl (e_v 0)) (e_ix rfl (e_v 1) (e_int) (fun _ _ => rfl)) (fun _ _ => rfl)) (e_str) (nomark _)) (w_or1 (t_cmp (op_neD hr.u64) b_ne (e_ix rfl (e_fld rfl t.cl_Net t.n_Net_kinds nd_Net rfl (e_v 0)) (e_ix rfl (e_v 1) (e_un un_neg u_neg (e_int)) (fun _ _ => rfl)) (fun _ _ => rfl)) (e_str) (nomark _))))) (ss_one (s_ret (e_bl))) (ss_nil)) (ss_cons (s_for PassesOwn.never rfl (i_lst rfl (e_sl rfl (e_v 1) (o_some (e_int)) (o_some (e_un un_neg u_neg (e_int))))) (g_name (i := 2) sc_is_path.nd rfl (by first | exact .inl rfl | exact .inr rfl)) (ss_one (s_if (t_cmp (op_neD hr.u64) b_ne (e_ix rfl (e_fld rfl t.cl_Net t.n_Net_kinds nd_Net rfl (e_v 0)) (e_v 2) (fun _ _ => rfl)) (e_str) (nomark _)) (ss_one (s_ret (e_bl))) (ss_nil)))) (ss_cons (s_for PassesOwn.never rfl (i_lst rfl (e_call (ok_ports_of t) (hr.mono (by decide)) (by rfl) t.m_ports_of t.F_ports_of.kp t.b_ports_of (a_cons (e_v 1) (a_nil)))) (g_tup rfl (g_cons (g_name (i := 3) sc_is_path.nd rfl (by first | exact .inl rfl | exact .inr rfl)) (g_cons (g_name (i := 4) sc_is_path.nd rfl (by first | exact .inl rfl | exact .inr rfl)) (g_nil)))) (ss_one (s_if (t_cmp op_isN1 b_isN (e_meth t.cl_Net t.mt_Net_delay (ok_Net_delay t) (hr.mono (by decide)) t.b_Net_delay no_Net_delay (e_v 0) (a_cons (e_v 3) (a_cons (e_v 4) (a_nil)))) (e_non) (nomark _)) (ss_one (s_ret (e_bl))) (ss_nil)))) (ss_one (s_ret (e_bl))))))) w_is_path
theorem ok__read_stream (t : Tx P K mg) : FnOk P w K mg base (L2.CX P w) 6 t.f__read_stream t.d__read_stream ["row", "net", "place"] (spE (tb P w t) t.C_InvalidText "InvalidText" c__read_stream) :=
  fn_okE (T := tb P w t) (a := a__read_stream) t.F__read_stream sc__read_stream l__read_stream (by decide) (fun ex cdv A outer s H E hr tk po =>
    have hp := passes_call tk (fun _ _ _ _ h => h)
    ss_cons (s_setC (i := 3) sc__read_stream.nd rfl (by first | exact .inl rfl | exact .inr rfl) (e_callE hp (ok__words t) (hr.mono (by decide)) (by rfl) t.m__words t.F__words.kp t.b__words (a_cons (e_v 0) (a_cons (e_str) (a_cons (e_int) (a_cons (e_v 2) (a_nil))))))) (ss_cons (s_setC (i := 4) sc__read_stream.nd rfl (by first | exact .inl rfl | exact .inr rfl) (e_callE hp (ok__number t) (hr.mono (by decide)) (by rfl) t.m__number t.F__number.kp t.b__number (a_cons (e_ix rfl (e_v 3) (e_int) (fun _ _ => rfl)) (a_cons (e_int) (a_cons (e_int) (a_cons (e_v 2) (a_nil))))))) (ss_cons (s_setC (i := 5) sc__read_stream.nd rfl (by first | exact .inl rfl | exact .inr rfl) (e_callE hp (ok__number t) (hr.mono (by decide)) (by rfl) t.m__number t.F__number.kp t.b__number (a_cons (e_ix rfl (e_v 3) (e_int) (fun _ _ => rfl)) (a_cons (e_int) (a_cons (e_v 4) (a_cons (e_v 2) (a_nil))))))) (ss_cons (s_setC (i := 6) sc__read_stream.nd rfl (by first | exact .inl rfl | exact .inr rfl) (e_callE hp (ok__number t) (hr.mono (by decide)) (by rfl) t.m__number t.F__number.kp t.b__number (a_cons (e_ix rfl (e_v 3) (e_int) (fun _ _ => rfl)) (a_cons (e_int) (a_cons (e_int) (a_cons (e_v 2) (a_nil))))))) (ss_cons (s_setCLcX (i := 7) (own := [("word", 8)]) rfl rfl tk rfl sc__read_stream.nd rfl rfl (sw_true rfl rfl rfl (by decide +kernel)) (i_lstG rfl (e_split (pe_bm PySem.F.plainAttrs_str PySem.F.slot_str_split PySem.F.type_str_split mt_split (e_ix rfl (e_v 3) (e_int) (fun _ _ => rfl)) (a_cons (e_str) (a_nil))))) (blkOk_by (own := [("word", 8)]) (N := N__read_stream) (sc := defScope s__read_stream) (by decide +kernel)) (by decide) (fun _ _ _ _ _ => g_name (i := 8) sc__read_stream.nd rfl (by first | exact .inl rfl | exact .inr rfl)) (fun _ _ _ _ _ => ts_nil) (fun _ _ _ _ _ hp => e_callE hp (ok__number t) (hr.mono (by decide)) (by rfl) t.m__number t.F__number.kp t.b__number (a_cons (e_v 8) (a_cons (e_int) (a_cons (e_bin op_sub b_sub (e_cb call_lenAll c_len (by rfl) t.n_len (by decide +kernel) (a_cons (e_fld rfl t.cl_Net t.n_Net_kinds nd_Net rfl (e_v 1)) (a_nil))) (e_int)) (a_cons (e_v 2) (a_nil))))))) (ss_cons (s_setCLcX (i := 9) (own := [("word", 8)]) rfl rfl tk rfl sc__read_stream.nd rfl rfl (sw_true rfl rfl rfl (by decide +kernel)) (i_lstG rfl (e_split (pe_bm PySem.F.plainAttrs_str PySem.F.slot_str_split PySem.F.type_str_split mt_split (e_ix rfl (e_v 3) (e_int) (fun _ _ => rfl)) (a_cons (e_str) (a_nil))))) (blkOk_by (own := [("word", 8)]) (N := N__read_stream) (sc := defScope s__read_stream) (by decide +kernel)) (by decide) (fun _ _ _ _ _ => g_name (i := 8) sc__read_stream.nd rfl (by first | exact .inl rfl | exact .inr rfl)) (fun _ _ _ _ _ => ts_nil) (fun _ _ _ _ _ hp => e_callE hp (ok__number t) (hr.mono (by decide)) (by rfl) t.m__number t.F__number.kp t.b__number (a_cons (e_v 8) (a_cons (e_int) (a_cons (e_int) (a_cons (e_v 2) (a_nil))))))) (ss_cons (s_if (PW.pt (w_or (t_not (t_val (e_call (ok_is_path t) (hr.mono (by decide)) (by rfl) t.m_is_path t.F_is_path.kp t.b_is_path (a_cons (e_v 1) (a_cons (e_v 7) (a_nil)))))) (w_or1 (t_cmp (op_neD hr.u64) b_ne (e_cb call_lenAll c_len (by rfl) t.n_len (by decide +kernel) (a_cons (e_v 9) (a_nil))) (e_cb call_lenAll c_len (by rfl) t.n_len (by decide +kernel) (a_cons (e_call (ok_ports_of t) (hr.mono (by decide)) (by rfl) t.m_ports_of t.F_ports_of.kp t.b_ports_of (a_cons (e_v 7) (a_nil))) (a_nil))) (nomark _))))) (ss_one (s_raise (CX := CX0) rfl tk t.xk.ox t.xi t.xt (ok_exc t) (hr.mono (by decide)) t.xb (by rfl) t.xm (e_v 2))) (ss_nil)) (ss_one (s_ret (e_tup (a_cons (e_make t.mk_Stream (ok_Stream___init__ t) (hr.mono (by decide)) (by rfl) t.mC_Stream t.b_Stream___init__ (a_cons (e_v 4) (a_cons (e_v 5) (a_cons (e_v 6) (a_cons (e_v 7) (a_nil)))))) (a_cons (e_v 9) (a_nil))))))))))))) w__read_stream
theorem ok__read_kinds (t : Tx P K mg) : FnOk P w K mg base (L2.CX P w) 5 t.f__read_kinds t.d__read_kinds ["rows"] (spE (tb P w t) t.C_InvalidText "InvalidText" c__read_kinds) :=
  fn_okE (T := tb P w t) (a := a__read_kinds) t.F__read_kinds sc__read_kinds l__read_kinds (by decide) (fun ex cdv A outer s H E hr tk po =>
    have hp := passes_call tk (fun _ _ _ _ h => h)
    ss_cons (s_set (i := 1) sc__read_kinds.nd rfl (by first | exact .inl rfl | exact .inr rfl) (e_lst (a_nil))) (ss_cons (s_while po (PW.pt (w_and (t_cmp op_lt b_lt (e_bin op_addAll b_add (e_cb call_lenAll c_len (by rfl) t.n_len (by decide +kernel) (a_cons (e_v 1) (a_nil))) (e_int)) (e_cb call_lenAll c_len (by rfl) t.n_len (by decide +kernel) (a_cons (e_v 0) (a_nil))) (nomark _)) (w_and1 (t_cmp (op_inD hr.u65) b_in (e_ix rfl (e_v 0) (e_bin op_addAll b_add (e_cb call_lenAll c_len (by rfl) t.n_len (by decide +kernel) (a_cons (e_v 1) (a_nil))) (e_int)) (fun _ _ => rfl)) (e_lst (a_cons (e_str) (a_cons (e_str) (a_nil)))) (by rfl))))) (ss_cons (s_mut m_append rfl (ps_expr (pe_bm PySem.F.plainAttrs_list PySem.F.slot_list_append PySem.F.type_list_append mt_append (pv 1) (a_cons (e_ix rfl (e_v 0) (e_bin op_addAll b_add (e_cb call_lenAll c_len (by rfl) t.n_len (by decide +kernel) (a_cons (e_v 1) (a_nil))) (e_int)) (fun _ _ => rfl)) (a_nil))))) (ss_one (s_if (t_cmp op_gt b_gt (e_cb call_lenAll c_len (by rfl) t.n_len (by decide +kernel) (a_cons (e_v 1) (a_nil))) (e_gintE (by rfl) t.g_MOST_NODES) (nomark _)) (ss_one (s_raise (CX := CX0) rfl tk t.xk.ox t.xi t.xt (ok_exc t) (hr.mono (by decide)) t.xb (by rfl) t.xm (e_cb call_lenAll c_len (by rfl) t.n_len (by decide +kernel) (a_cons (e_v 1) (a_nil))))) (ss_nil))))) (ss_cons (s_if (t_cmp (op_eqD hr.u64) b_eq (e_cb call_lenAll c_len (by rfl) t.n_len (by decide +kernel) (a_cons (e_v 1) (a_nil))) (e_int) (nomark _)) (ss_one (s_raise (CX := CX0) rfl tk t.xk.ox t.xi t.xt (ok_exc t) (hr.mono (by decide)) t.xb (by rfl) t.xm (e_cb (call_min2 rfl) c_min2 (by rfl) t.n_min (by decide +kernel) (a_cons (e_int) (a_cons (e_cb call_lenAll c_len (by rfl) t.n_len (by decide +kernel) (a_cons (e_v 0) (a_nil))) (a_nil)))))) (ss_nil)) (ss_one (s_retV 1))))) w__read_kinds
theorem ok__read_rows (t : Tx P K mg) : FnOk P w K mg base (L2.CX P w) 7 t.f__read_rows t.d__read_rows ["rows"] (spE (tb P w t) t.C_InvalidText "InvalidText" c__read_rows) :=
  fn_okE (T := tb P w t) (a := a__read_rows) t.F__read_rows sc__read_rows l__read_rows (by decide) (fun ex cdv A outer s H E hr tk po =>
    have hp := passes_call tk (fun _ _ _ _ h => h)
    ss_cons (s_if (PW.pt (w_or (t_cmp (op_eqD hr.u64) b_eq (e_cb call_lenAll c_len (by rfl) t.n_len (by decide +kernel) (a_cons (e_v 0) (a_nil))) (e_int) (nomark _)) (w_or1 (t_cmp op_isN1 b_isN (e_ix rfl (e_v 0) (e_int) (fun _ _ => rfl)) (e_non) (nomark _))))) (ss_one (s_raise (CX := CX0) rfl tk t.xk.ox t.xi t.xt (ok_exc t) (hr.mono (by decide)) t.xb (by rfl) t.xm (e_int))) (ss_nil)) (ss_cons (s_setC (i := 1) sc__read_rows.nd rfl (by first | exact .inl rfl | exact .inr rfl) (e_callE hp (ok__words t) (hr.mono (by decide)) (by rfl) t.m__words t.F__words.kp t.b__words (a_cons (e_ix rfl (e_v 0) (e_int) (fun _ _ => rfl)) (a_cons (e_str) (a_cons (e_int) (a_cons (e_int) (a_nil))))))) (ss_cons (s_setC (i := 2) sc__read_rows.nd rfl (by first | exact .inl rfl | exact .inr rfl) (e_callE hp (ok__number t) (hr.mono (by decide)) (by rfl) t.m__number t.F__number.kp t.b__number (a_cons (e_ix rfl (e_v 1) (e_int) (fun _ _ => rfl)) (a_cons (e_int) (a_cons (e_int) (a_cons (e_int) (a_nil))))))) (ss_cons (s_setC (i := 3) sc__read_rows.nd rfl (by first | exact .inl rfl | exact .inr rfl) (e_callE hp (ok__number t) (hr.mono (by decide)) (by rfl) t.m__number t.F__number.kp t.b__number (a_cons (e_ix rfl (e_v 1) (e_int) (fun _ _ => rfl)) (a_cons (e_int) (a_cons (e_int) (a_cons (e_int) (a_nil))))))) (ss_cons (s_setC (i := 4) sc__read_rows.nd rfl (by first | exact .inl rfl | exact .inr rfl) (e_callE hp (ok__read_kinds t) (hr.mono (by decide)) (by rfl) t.m__read_kinds t.F__read_kinds.kp t.b__read_kinds (a_cons (e_v 0) (a_nil)))) (ss_cons (s_setC (i := 5) sc__read_rows.nd rfl (by first | exact .inl rfl | exact .inr rfl) (e_makeK (ks := ["processing", "error"]) t.mk_Net (ok_Net___init__ t) (hr.mono (by decide)) (by rfl) t.mC_Net t.kb_Net___init__ (a_cons (e_v 4) (a_cons (e_lst (a_nil)) (a_nil))) (k_cons (e_v 2) (k_cons (e_v 3) (k_nil))))) (ss_cons (s_setC (i := 6) sc__read_rows.nd rfl (by first | exact .inl rfl | exact .inr rfl) (e_bin op_addAll b_add (e_int) (e_cb call_lenAll c_len (by rfl) t.n_len (by decide +kernel) (a_cons (e_v 4) (a_nil))))) (ss_cons (s_while po (PW.pt (w_and (t_cmp op_lt b_lt (e_v 6) (e_cb call_lenAll c_len (by rfl) t.n_len (by decide +kernel) (a_cons (e_v 0) (a_nil))) (nomark _)) (w_and (t_cmp op_notN1 b_notN (e_ix rfl (e_v 0) (e_v 6) (fun _ _ => rfl)) (e_non) (nomark _)) (w_and1 (t_cmp (op_eqD hr.u64) b_eq (e_ix rfl (e_split (pe_bm PySem.F.plainAttrs_str PySem.F.slot_str_split PySem.F.type_str_split mt_split (e_ix rfl (e_v 0) (e_v 6) (fun _ _ => rfl)) (a_cons (e_str) (a_nil)))) (e_int) (fun _ _ => rfl)) (e_str) (nomark _)))))) (ss_cons (s_setC (i := 5) sc__read_rows.nd rfl (by first | exact .inl rfl | exact .inr rfl) (e_makeK (ks := ["processing", "error"]) t.mk_Net (ok_Net___init__ t) (hr.mono (by decide)) (by rfl) t.mC_Net t.kb_Net___init__ (a_cons (e_v 4) (a_cons (e_bin op_addAll b_add (e_fld rfl t.cl_Net t.n_Net_lines nd_Net rfl (e_v 5)) (e_lst (a_cons (e_callE hp (ok__read_line t) (hr.mono (by decide)) (by rfl) t.m__read_line t.F__read_line.kp t.b__read_line (a_cons (e_ix rfl (e_v 0) (e_v 6) (fun _ _ => rfl)) (a_cons (e_v 5) (a_cons (e_v 6) (a_nil))))) (a_nil)))) (a_nil))) (k_cons (e_v 2) (k_cons (e_v 3) (k_nil))))) (ss_one (s_augAdd (i := 6) sc__read_rows.nd rfl (by first | exact .inl rfl | exact .inr rfl) (e_int))))) (ss_cons (s_set (i := 7) sc__read_rows.nd rfl (by first | exact .inl rfl | exact .inr rfl) (e_lst (a_nil))) (ss_cons (s_while po (t_cmp op_lt b_lt (e_v 6) (e_cb call_lenAll c_len (by rfl) t.n_len (by decide +kernel) (a_cons (e_v 0) (a_nil))) (nomark _)) (ss_cons (s_if (t_cmp op_isN1 b_isN (e_ix rfl (e_v 0) (e_v 6) (fun _ _ => rfl)) (e_non) (nomark _)) (ss_one (s_raise (CX := CX0) rfl tk t.xk.ox t.xi t.xt (ok_exc t) (hr.mono (by decide)) t.xb (by rfl) t.xm (e_v 6))) (ss_nil)) (ss_cons (s_mut m_append rfl (ps_expr (pe_bm PySem.F.plainAttrs_list PySem.F.slot_list_append PySem.F.type_list_append mt_append (pv 7) (a_cons (e_callE hp (ok__read_stream t) (hr.mono (by decide)) (by rfl) t.m__read_stream t.F__read_stream.kp t.b__read_stream (a_cons (e_ix rfl (e_v 0) (e_v 6) (fun _ _ => rfl)) (a_cons (e_v 5) (a_cons (e_v 6) (a_nil))))) (a_nil))))) (ss_one (s_augAdd (i := 6) sc__read_rows.nd rfl (by first | exact .inl rfl | exact .inr rfl) (e_int)))))) (ss_one (s_frz 7 (s_ret (e_tup (a_cons (e_v 5) (a_cons (e_v 7) (a_nil))))))))))))))))) w__read_rows
theorem ok_read_text (t : Tx P K mg) : FnOk P w K mg base (L2.CX P w) 8 t.f_read_text t.d_read_text ["text"] (spE (tb P w t) t.C_InvalidText "InvalidText" c_read_text) :=
  fn_okE (T := tb P w t) (a := a_read_text) t.F_read_text sc_read_text l_read_text (by decide) (fun ex cdv A outer s H E hr tk po =>
    have hp := passes_call tk (fun _ _ _ _ h => h)
    ss_cons (s_set (i := 1) sc_read_text.nd rfl (by first | exact .inl rfl | exact .inr rfl) (e_split (pe_bm PySem.F.plainAttrs_str PySem.F.slot_str_split PySem.F.type_str_split mt_split (e_v 0) (a_cons (e_str) (a_nil))))) (ss_cons (s_ifX (tx_cmpL (op_neD hr.u64) b_ne (x_mut0 m_pop (pe_bm0 PySem.F.plainAttrs_list PySem.F.slot_list_pop PySem.F.type_list_pop mt_pop (e_pV 1))) (e_str) (nomark _)) (ss_one (s_ret (e_callE hp (ok__read_rows t) (hr.mono (by decide)) (by rfl) t.m__read_rows t.F__read_rows.kp t.b__read_rows (a_cons (e_bin op_addAll b_add (e_v 1) (e_lst (a_cons (e_non) (a_nil)))) (a_nil))))) (ss_nil)) (ss_one (s_frz 1 (s_ret (e_callE hp (ok__read_rows t) (hr.mono (by decide)) (by rfl) t.m__read_rows t.F__read_rows.kp t.b__read_rows (a_cons (e_v 1) (a_nil)))))))) w_read_text
theorem ok__law_draw (t : Tx P K mg) : FnOk P w K mg base CX0 1 t.f__law_draw t.d__law_draw ["_law_cell_here", "_law_many", "_law_bound"] (spC (tb P w t) c__law_draw) :=
  fn_ok (T := tb P w t) (a := a__law_draw) t.F__law_draw sc__law_draw l__law_draw (by decide) (fun cdv A outer s H E hr =>
    ss_cons (s_set (i := 3) sc__law_draw.nd rfl (by first | exact .inl rfl | exact .inr rfl) (e_lst (a_nil))) (ss_cons (s_if (t_cmp op_ge b_ge (e_v 0) (e_bin op_pow b_pow (e_int) (e_int)) (nomark _)) (ss_cons (s_for PassesOwn.never rfl (i_r1 (by rfl) t.n_range (a_cons (e_v 1) (a_nil))) (g_name (i := 4) sc__law_draw.nd rfl (by first | exact .inl rfl | exact .inr rfl)) (ss_cons (s_mut m_append rfl (ps_expr (pe_bm PySem.F.plainAttrs_list PySem.F.slot_list_append PySem.F.type_list_append mt_append (pv 3) (a_cons (e_bin op_mod b_mod (e_cty call_int1 c_int (by rfl) t.n_int (by decide +kernel) (a_cons (e_v 0) (a_nil))) (e_v 2)) (a_nil))))) (ss_one (s_setC (i := 0) sc__law_draw.nd rfl (by first | exact .inl rfl | exact .inr rfl) (e_bin op_fdiv b_div (e_v 0) (e_v 2)))))) (ss_one (s_retV 3))) (ss_nil)) (ss_cons (s_setC (i := 5) sc__law_draw.nd rfl (by first | exact .inl rfl | exact .inr rfl) (e_bin op_mod b_mod (e_cty call_int1 c_int (by rfl) t.n_int (by decide +kernel) (a_cons (e_v 0) (a_nil))) (e_int))) (ss_cons (s_for PassesOwn.never rfl (i_r1 (by rfl) t.n_range (a_cons (e_v 1) (a_nil))) (g_name (i := 4) sc__law_draw.nd rfl (by first | exact .inl rfl | exact .inr rfl)) (ss_cons (s_setC (i := 5) sc__law_draw.nd rfl (by first | exact .inl rfl | exact .inr rfl) (e_bin op_mod b_mod (e_cty call_int1 c_int (by rfl) t.n_int (by decide +kernel) (a_cons (e_bin op_addAll b_add (e_bin op_addAll b_add (e_bin op_mulAll b_mulAll (e_v 5) (e_int)) (e_int)) (e_v 4)) (a_nil))) (e_int))) (ss_cons (s_setC (i := 6) sc__law_draw.nd rfl (by first | exact .inl rfl | exact .inr rfl) (e_bin op_mod b_mod (e_cty call_int1 c_int (by rfl) t.n_int (by decide +kernel) (a_cons (e_bin op_addAll b_add (e_bin op_mulAll b_mulAll (e_v 5) (e_int)) (e_bin op_mulAll b_mulAll (e_int) (e_v 4))) (a_nil))) (e_int))) (ss_one (s_mut m_append rfl (ps_expr (pe_bm PySem.F.plainAttrs_list PySem.F.slot_list_append PySem.F.type_list_append mt_append (pv 3) (a_cons (e_bin op_mod b_mod (e_cty call_int1 c_int (by rfl) t.n_int (by decide +kernel) (a_cons (e_bin op_fdiv b_div (e_v 6) (e_int)) (a_nil))) (e_v 2)) (a_nil))))))))) (ss_one (s_retV 3)))))) w__law_draw
theorem ok__law_cell (t : Tx P K mg) : FnOk P w K mg base CX0 1 t.f__law_cell t.d__law_cell ["_law_script", "_law_k"] (spC (tb P w t) c__law_cell) :=
  fn_ok (T := tb P w t) (a := a__law_cell) t.F__law_cell sc__law_cell l__law_cell (by decide) (fun cdv A outer s H E hr =>
    ss_cons (s_if (t_cmp op_lt b_lt (e_v 1) (e_cb call_lenAll c_len (by rfl) t.n_len (by decide +kernel) (a_cons (e_v 0) (a_nil))) (nomark _)) (ss_one (s_ret (e_ix rfl (e_v 0) (e_v 1) (fun _ _ => rfl)))) (ss_nil)) (ss_one (s_ret (e_int)))) w__law_cell
theorem ok__law_rows (t : Tx P K mg) : FnOk P w K mg base CX0 1 t.f__law_rows t.d__law_rows ["_law_numbers_here"] (spC (tb P w t) c__law_rows) :=
  fn_ok (T := tb P w t) (a := a__law_rows) t.F__law_rows sc__law_rows l__law_rows (by decide) (fun cdv A outer s H E hr =>
    ss_cons (s_set (i := 1) sc__law_rows.nd rfl (by first | exact .inl rfl | exact .inr rfl) (e_lst (a_cons (e_bin op_addAll b_add (e_bin op_addAll b_add (e_bin op_addAll b_add (e_str) (e_cty call_str_int c_strI (by rfl) t.n_str (by decide +kernel) (a_cons (e_bin op_mod b_mod (e_ix rfl (e_v 0) (e_int) (fun _ _ => rfl)) (e_int)) (a_nil)))) (e_str)) (e_cty call_str_int c_strI (by rfl) t.n_str (by decide +kernel) (a_cons (e_bin op_mod b_mod (e_ix rfl (e_v 0) (e_int) (fun _ _ => rfl)) (e_int)) (a_nil)))) (a_nil)))) (ss_cons (s_setC (i := 2) sc__law_rows.nd rfl (by first | exact .inl rfl | exact .inr rfl) (e_ix rfl (e_lst (a_cons (e_lst (a_cons (e_str) (a_cons (e_str) (a_cons (e_str) (a_cons (e_str) (a_nil)))))) (a_cons (e_lst (a_cons (e_str) (a_cons (e_str) (a_nil)))) (a_cons (e_lst (a_cons (e_str) (a_cons (e_str) (a_cons (e_str) (a_cons (e_str) (a_nil)))))) (a_nil))))) (e_bin op_mod b_mod (e_ix rfl (e_v 0) (e_int) (fun _ _ => rfl)) (e_int)) (fun _ _ => rfl))) (ss_cons (s_set (i := 1) sc__law_rows.nd rfl (by first | exact .inl rfl | exact .inr rfl) (e_bin op_addAll b_add (e_v 1) (e_v 2))) (ss_cons (s_if (t_cmp (op_eqD hr.u64) b_eq (e_cb call_lenAll c_len (by rfl) t.n_len (by decide +kernel) (a_cons (e_v 2) (a_nil))) (e_int) (nomark _)) (ss_cons (s_mut m_append rfl (ps_expr (pe_bm PySem.F.plainAttrs_list PySem.F.slot_list_append PySem.F.type_list_append mt_append (pv 1) (a_cons (e_bin op_addAll b_add (e_str) (e_cty call_str_int c_strI (by rfl) t.n_str (by decide +kernel) (a_cons (e_bin op_mod b_mod (e_ix rfl (e_v 0) (e_int) (fun _ _ => rfl)) (e_int)) (a_nil)))) (a_nil))))) (ss_cons (s_mut m_append rfl (ps_expr (pe_bm PySem.F.plainAttrs_list PySem.F.slot_list_append PySem.F.type_list_append mt_append (pv 1) (a_cons (e_bin op_addAll b_add (e_str) (e_cty call_str_int c_strI (by rfl) t.n_str (by decide +kernel) (a_cons (e_bin op_mod b_mod (e_ix rfl (e_v 0) (e_int) (fun _ _ => rfl)) (e_int)) (a_nil)))) (a_nil))))) (ss_one (s_retV 1)))) (ss_nil)) (ss_cons (s_if (t_cmp (op_eqD hr.u64) b_eq (e_ix rfl (e_v 2) (e_int) (fun _ _ => rfl)) (e_str) (nomark _)) (ss_cons (s_set (i := 1) sc__law_rows.nd rfl (by first | exact .inl rfl | exact .inr rfl) (e_bin op_addAll b_add (e_v 1) (e_lst (a_cons (e_str) (a_cons (e_bin op_addAll b_add (e_str) (e_cty call_str_int c_strI (by rfl) t.n_str (by decide +kernel) (a_cons (e_bin op_mod b_mod (e_ix rfl (e_v 0) (e_int) (fun _ _ => rfl)) (e_int)) (a_nil)))) (a_cons (e_str) (a_nil))))))) (ss_cons (s_mut m_append rfl (ps_expr (pe_bm PySem.F.plainAttrs_list PySem.F.slot_list_append PySem.F.type_list_append mt_append (pv 1) (a_cons (e_bin op_addAll b_add (e_bin op_addAll b_add (e_str) (e_cty call_str_int c_strI (by rfl) t.n_str (by decide +kernel) (a_cons (e_bin op_addAll b_add (e_int) (e_bin op_mod b_mod (e_ix rfl (e_v 0) (e_int) (fun _ _ => rfl)) (e_int))) (a_nil)))) (e_str)) (a_nil))))) (ss_one (s_ret (e_bin op_addAll b_add (e_v 1) (e_lst (a_cons (e_str) (a_nil)))))))) (ss_nil)) (ss_one (s_ret (e_bin op_addAll b_add (e_v 1) (e_lst (a_cons (e_str) (a_cons (e_str) (a_cons (e_str) (a_cons (e_str) (a_nil)))))))))))))) w__law_rows
theorem ok__law_word (t : Tx P K mg) : FnOk P w K mg base CX0 1 t.f__law_word t.d__law_word ["_law_numbers_here"] (spC (tb P w t) c__law_word) :=
  fn_ok (T := tb P w t) (a := a__law_word) t.F__law_word sc__law_word l__law_word (by decide) (fun cdv A outer s H E hr =>
    ss_cons (s_setC (i := 1) sc__law_word.nd rfl (by first | exact .inl rfl | exact .inr rfl) (e_lst (a_cons (e_str) (a_cons (e_str) (a_cons (e_str) (a_cons (e_str) (a_cons (e_str) (a_cons (e_str) (a_cons (e_str) (a_cons (e_str) (a_cons (e_str) (a_cons (e_str) (a_cons (e_str) (a_cons (e_str) (a_cons (e_str) (a_cons (e_str) (a_cons (e_str) (a_cons (e_str) (a_cons (e_str) (a_nil)))))))))))))))))))) (ss_cons (s_setC (i := 1) sc__law_word.nd rfl (by first | exact .inl rfl | exact .inr rfl) (e_bin op_addAll b_add (e_v 1) (e_lst (a_cons (e_str) (a_cons (e_str) (a_cons (e_str) (a_cons (e_str) (a_cons (e_str) (a_cons (e_str) (a_cons (e_str) (a_cons (e_str) (a_cons (e_str) (a_cons (e_str) (a_cons (e_str) (a_cons (e_str) (a_cons (e_str) (a_cons (e_str) (a_nil)))))))))))))))))) (ss_one (s_ret (e_ix rfl (e_v 1) (e_bin op_mod b_mod (e_ix rfl (e_v 0) (e_int) (fun _ _ => rfl)) (e_cb call_lenAll c_len (by rfl) t.n_len (by decide +kernel) (a_cons (e_v 1) (a_nil)))) (fun _ _ => rfl)))))) w__law_word
theorem ok__law_spoilt (t : Tx P K mg) : FnOk P w K mg base CX0 2 t.f__law_spoilt t.d__law_spoilt ["_law_rows_here", "_law_numbers_here"] (spC (tb P w t) c__law_spoilt) :=
  fn_ok (T := tb P w t) (a := a__law_spoilt) t.F__law_spoilt sc__law_spoilt l__law_spoilt (by decide) (fun cdv A outer s H E hr =>
    ss_cons (s_setC (i := 2) sc__law_spoilt.nd rfl (by first | exact .inl rfl | exact .inr rfl) (e_bin op_mod b_mod (e_ix rfl (e_v 1) (e_int) (fun _ _ => rfl)) (e_int))) (ss_cons (s_setC (i := 3) sc__law_spoilt.nd rfl (by first | exact .inl rfl | exact .inr rfl) (e_bin op_mod b_mod (e_ix rfl (e_v 1) (e_int) (fun _ _ => rfl)) (e_cb call_lenAll c_len (by rfl) t.n_len (by decide +kernel) (a_cons (e_v 0) (a_nil))))) (ss_cons (s_set (i := 4) sc__law_spoilt.nd rfl (by first | exact .inl rfl | exact .inr rfl) (e_split (pe_bm PySem.F.plainAttrs_str PySem.F.slot_str_split PySem.F.type_str_split mt_split (e_ix rfl (e_v 0) (e_v 3) (fun _ _ => rfl)) (a_cons (e_str) (a_nil))))) (ss_cons (s_setC (i := 5) sc__law_spoilt.nd rfl (by first | exact .inl rfl | exact .inr rfl) (e_bin op_mod b_mod (e_ix rfl (e_v 1) (e_int) (fun _ _ => rfl)) (e_cb call_lenAll c_len (by rfl) t.n_len (by decide +kernel) (a_cons (e_v 4) (a_nil))))) (ss_cons (s_if (t_cmp (op_eqD hr.u64) b_eq (e_v 2) (e_int) (nomark _)) (ss_one (s_ret (e_bin op_addAll b_add (e_sl rfl (e_v 0) (o_none) (o_some (e_v 3))) (e_sl rfl (e_v 0) (o_some (e_bin op_addAll b_add (e_v 3) (e_int))) (o_none))))) (ss_nil)) (ss_cons (s_if (t_cmp (op_eqD hr.u64) b_eq (e_v 2) (e_int) (nomark _)) (ss_one (s_ret (e_bin op_addAll b_add (e_bin op_addAll b_add (e_sl rfl (e_v 0) (o_none) (o_some (e_v 3))) (e_lst (a_cons (e_ix rfl (e_v 0) (e_v 3) (fun _ _ => rfl)) (a_nil)))) (e_sl rfl (e_v 0) (o_some (e_v 3)) (o_none))))) (ss_nil)) (ss_cons (s_if (PW.pt (w_and (t_cmp (op_eqD hr.u64) b_eq (e_v 2) (e_int) (nomark _)) (w_and1 (t_cmp op_lt b_lt (e_bin op_addAll b_add (e_v 3) (e_int)) (e_cb call_lenAll c_len (by rfl) t.n_len (by decide +kernel) (a_cons (e_v 0) (a_nil))) (nomark _))))) (ss_one (s_ret (e_bin op_addAll b_add (e_bin op_addAll b_add (e_sl rfl (e_v 0) (o_none) (o_some (e_v 3))) (e_lst (a_cons (e_ix rfl (e_v 0) (e_bin op_addAll b_add (e_v 3) (e_int)) (fun _ _ => rfl)) (a_cons (e_ix rfl (e_v 0) (e_v 3) (fun _ _ => rfl)) (a_nil))))) (e_sl rfl (e_v 0) (o_some (e_bin op_addAll b_add (e_v 3) (e_int))) (o_none))))) (ss_nil)) (ss_cons (s_if (t_cmp (op_eqD hr.u64) b_eq (e_v 2) (e_int) (nomark _)) (ss_one (s_ret (e_bin op_addAll b_add (e_bin op_addAll b_add (e_sl rfl (e_v 0) (o_none) (o_some (e_v 3))) (e_sl rfl (e_v 0) (o_some (e_bin op_addAll b_add (e_v 3) (e_int))) (o_none))) (e_lst (a_cons (e_ix rfl (e_v 0) (e_v 3) (fun _ _ => rfl)) (a_nil)))))) (ss_nil)) (ss_cut (s_if (t_cmp (op_eqD hr.u64) b_eq (e_v 2) (e_int) (nomark _)) (ss_one (s_set (i := 4) sc__law_spoilt.nd rfl (by first | exact .inl rfl | exact .inr rfl) (e_bin op_addAll b_add (e_sl rfl (e_v 4) (o_none) (o_some (e_v 5))) (e_sl rfl (e_v 4) (o_some (e_bin op_addAll b_add (e_v 5) (e_int))) (o_none))))) (ss_nil)) (ss_cut (s_if (t_cmp (op_eqD hr.u64) b_eq (e_v 2) (e_int) (nomark _)) (ss_one (s_set (i := 4) sc__law_spoilt.nd rfl (by first | exact .inl rfl | exact .inr rfl) (e_bin op_addAll b_add (e_bin op_addAll b_add (e_sl rfl (e_v 4) (o_none) (o_some (e_v 5))) (e_lst (a_cons (e_ix rfl (e_v 4) (e_v 5) (fun _ _ => rfl)) (a_nil)))) (e_sl rfl (e_v 4) (o_some (e_v 5)) (o_none))))) (ss_nil)) (ss_cut (s_if (t_cmp (op_inD hr.u65) b_in (e_v 2) (e_lst (a_cons (e_int) (a_cons (e_int) (a_cons (e_int) (a_nil))))) (by rfl)) (ss_one (s_setIx (ps_asg (e_call (ok__law_word t) (hr.mono (by decide)) (by rfl) t.m__law_word t.F__law_word.kp t.b__law_word (a_cons (e_v 1) (a_nil))) (pg_sub (pv 4) (e_v 5) set_list)))) (ss_nil)) (ss_cut (s_if (t_cmp (op_eqD hr.u64) b_eq (e_v 2) (e_int) (nomark _)) (ss_one (s_set (i := 4) sc__law_spoilt.nd rfl (by first | exact .inl rfl | exact .inr rfl) (e_bin op_addAll b_add (e_v 4) (e_lst (a_cons (e_str) (a_nil)))))) (ss_nil)) (ss_one (s_ret (e_bin op_addAll b_add (e_bin op_addAll b_add (e_sl rfl (e_v 0) (o_none) (o_some (e_v 3))) (e_lst (a_cons (e_join rfl (pe_bm PySem.F.plainAttrs_str PySem.F.slot_str_join PySem.F.type_str_join mt_join (e_str) (a_cons (e_v 4) (a_nil)))) (a_nil)))) (e_sl rfl (e_v 0) (o_some (e_bin op_addAll b_add (e_v 3) (e_int))) (o_none))))))))))))))))) w__law_spoilt
theorem ok__law_number (t : Tx P K mg) : FnOk P w K mg base CX0 1 t.f__law_number t.d__law_number ["_law_word_here", "_law_low", "_law_high"] (spC (tb P w t) c__law_number) :=
  fn_ok (T := tb P w t) (a := a__law_number) t.F__law_number sc__law_number l__law_number (by decide) (fun cdv A outer s H E hr =>
    ss_cons (s_if (PW.pt (w_or (t_cmp (op_eqD hr.u64) b_eq (e_v 0) (e_str) (nomark _)) (w_or (t_cmp op_gt b_gt (e_cb call_lenAll c_len (by rfl) t.n_len (by decide +kernel) (a_cons (e_v 0) (a_nil))) (e_int) (nomark _)) (w_or1 (PW.pt (w_and (t_cmp (op_eqD hr.u64) b_eq (e_ixC (e_v 0) (e_int) (fun _ _ => rfl)) (e_str) (nomark _)) (w_and1 (t_cmp op_gt b_gt (e_cb call_lenAll c_len (by rfl) t.n_len (by decide +kernel) (a_cons (e_v 0) (a_nil))) (e_int) (nomark _))))))))) (ss_one (s_ret (e_non))) (ss_nil)) (ss_cons (s_for PassesOwn.never rfl (i_strA (e_v 0)) (g_name (i := 3) sc__law_number.nd rfl (by first | exact .inl rfl | exact .inr rfl)) (ss_one (s_if (t_cmp op_notInC b_notInC (e_v 3) (e_str) (by rfl)) (ss_one (s_ret (e_non))) (ss_nil)))) (ss_cons (s_if (t_chain op_le op_le (e_v 1) (e_cty call_int_str c_intS (by rfl) t.n_int (by decide +kernel) (a_cons (e_v 0) (a_nil))) (e_v 2)) (ss_one (s_ret (e_cty call_int_str c_intS (by rfl) t.n_int (by decide +kernel) (a_cons (e_v 0) (a_nil))))) (ss_nil)) (ss_one (s_ret (e_non)))))) w__law_number
theorem ok__law_joined (t : Tx P K mg) : FnOk P w K mg base CX0 1 t.f__law_joined t.d__law_joined ["_law_lines", "_law_a", "_law_b"] (spC (tb P w t) c__law_joined) :=
  fn_ok (T := tb P w t) (a := a__law_joined) t.F__law_joined sc__law_joined l__law_joined (by decide) (fun cdv A outer s H E hr =>
    ss_cons (s_for PassesOwn.never rfl (i_lst rfl (e_v 0)) (g_name (i := 3) sc__law_joined.nd rfl (by first | exact .inl rfl | exact .inr rfl)) (ss_one (s_if (PW.pt (w_or (PW.pt (w_and (t_cmp (op_eqD hr.u64) b_eq (e_ix rfl (e_v 3) (e_int) (fun _ _ => rfl)) (e_v 1) (nomark _)) (w_and1 (t_cmp (op_eqD hr.u64) b_eq (e_ix rfl (e_v 3) (e_int) (fun _ _ => rfl)) (e_v 2) (nomark _))))) (w_or1 (PW.pt (w_and (t_cmp (op_eqD hr.u64) b_eq (e_ix rfl (e_v 3) (e_int) (fun _ _ => rfl)) (e_v 2) (nomark _)) (w_and1 (t_cmp (op_eqD hr.u64) b_eq (e_ix rfl (e_v 3) (e_int) (fun _ _ => rfl)) (e_v 1) (nomark _)))))))) (ss_one (s_ret (e_bl))) (ss_nil)))) (ss_one (s_ret (e_bl)))) w__law_joined
theorem ok__law_line (t : Tx P K mg) : FnOk P w K mg base CX0 2 t.f__law_line t.d__law_line ["_law_row", "_law_kinds", "_law_lines"] (spC (tb P w t) c__law_line) :=
  fn_ok (T := tb P w t) (a := a__law_line) t.F__law_line sc__law_line l__law_line (by decide) (fun cdv A outer s H E hr =>
    ss_cons (s_setC (i := 3) sc__law_line.nd rfl (by first | exact .inl rfl | exact .inr rfl) (e_split (pe_bm PySem.F.plainAttrs_str PySem.F.slot_str_split PySem.F.type_str_split mt_split (e_v 0) (a_cons (e_str) (a_nil))))) (ss_cons (s_if (t_cmp (op_neD hr.u64) b_ne (e_cb call_lenAll c_len (by rfl) t.n_len (by decide +kernel) (a_cons (e_v 3) (a_nil))) (e_int) (nomark _)) (ss_one (s_ret (e_non))) (ss_nil)) (ss_cons (s_setC (i := 4) sc__law_line.nd rfl (by first | exact .inl rfl | exact .inr rfl) (e_call (ok__law_number t) (hr.mono (by decide)) (by rfl) t.m__law_number t.F__law_number.kp t.b__law_number (a_cons (e_ix rfl (e_v 3) (e_int) (fun _ _ => rfl)) (a_cons (e_int) (a_cons (e_bin op_sub b_sub (e_cb call_lenAll c_len (by rfl) t.n_len (by decide +kernel) (a_cons (e_v 1) (a_nil))) (e_int)) (a_nil)))))) (ss_cons (s_setC (i := 5) sc__law_line.nd rfl (by first | exact .inl rfl | exact .inr rfl) (e_call (ok__law_number t) (hr.mono (by decide)) (by rfl) t.m__law_number t.F__law_number.kp t.b__law_number (a_cons (e_ix rfl (e_v 3) (e_int) (fun _ _ => rfl)) (a_cons (e_int) (a_cons (e_bin op_sub b_sub (e_cb call_lenAll c_len (by rfl) t.n_len (by decide +kernel) (a_cons (e_v 1) (a_nil))) (e_int)) (a_nil)))))) (ss_cons (s_setC (i := 6) sc__law_line.nd rfl (by first | exact .inl rfl | exact .inr rfl) (e_call (ok__law_number t) (hr.mono (by decide)) (by rfl) t.m__law_number t.F__law_number.kp t.b__law_number (a_cons (e_ix rfl (e_v 3) (e_int) (fun _ _ => rfl)) (a_cons (e_int) (a_cons (e_int) (a_nil)))))) (ss_cons (s_if (PW.pt (w_or (t_cmp op_isN1 b_isN (e_v 4) (e_non) (nomark _)) (w_or (t_cmp op_isN1 b_isN (e_v 5) (e_non) (nomark _)) (w_or (t_cmp op_isN1 b_isN (e_v 6) (e_non) (nomark _)) (w_or (t_cmp (op_eqD hr.u64) b_eq (e_v 4) (e_v 5) (nomark _)) (w_or1 (t_val (e_call (ok__law_joined t) (hr.mono (by decide)) (by rfl) t.m__law_joined t.F__law_joined.kp t.b__law_joined (a_cons (e_v 2) (a_cons (e_v 4) (a_cons (e_v 5) (a_nil)))))))))))) (ss_one (s_ret (e_non))) (ss_nil)) (ss_one (s_ret (e_tup (a_cons (e_v 4) (a_cons (e_v 5) (a_cons (e_v 6) (a_nil))))))))))))) w__law_line
theorem ok__law_numbers (t : Tx P K mg) : FnOk P w K mg base CX0 2 t.f__law_numbers t.d__law_numbers ["_law_text", "_law_low", "_law_high"] (spC (tb P w t) c__law_numbers) :=
  fn_ok (T := tb P w t) (a := a__law_numbers) t.F__law_numbers sc__law_numbers l__law_numbers (by decide) (fun cdv A outer s H E hr =>
    ss_cons (s_setCLcG (i := 3) (own := [("_law_word_here", 4)]) rfl sc__law_numbers.nd rfl rfl (sw_true rfl rfl rfl (by decide +kernel)) (i_lstG rfl (e_split (pe_bm PySem.F.plainAttrs_str PySem.F.slot_str_split PySem.F.type_str_split mt_split (e_v 0) (a_cons (e_str) (a_nil))))) (blkOk_by (own := [("_law_word_here", 4)]) (N := N__law_numbers) (sc := defScope s__law_numbers) (by decide +kernel)) (by decide) (fun _ _ _ _ _ => g_name (i := 4) sc__law_numbers.nd rfl (by first | exact .inl rfl | exact .inr rfl)) (fun _ _ _ _ _ => ts_nil) (fun _ _ _ _ _ => e_call (ok__law_number t) (hr.mono (by decide)) (by rfl) t.m__law_number t.F__law_number.kp t.b__law_number (a_cons (e_v 4) (a_cons (e_v 1) (a_cons (e_v 2) (a_nil)))))) (ss_cons (s_if (t_cmp (op_inD hr.u65) b_in (e_non) (e_v 3) (by rfl)) (ss_one (s_ret (e_non))) (ss_nil)) (ss_one (s_retV 3)))) w__law_numbers
theorem ok__law_stream (t : Tx P K mg) : FnOk P w K mg base CX0 3 t.f__law_stream t.d__law_stream ["_law_row", "_law_kinds", "_law_lines"] (spC (tb P w t) c__law_stream) :=
  fn_ok (T := tb P w t) (a := a__law_stream) t.F__law_stream sc__law_stream l__law_stream (by decide) (fun cdv A outer s H E hr =>
    ss_cons (s_setC (i := 3) sc__law_stream.nd rfl (by first | exact .inl rfl | exact .inr rfl) (e_split (pe_bm PySem.F.plainAttrs_str PySem.F.slot_str_split PySem.F.type_str_split mt_split (e_v 0) (a_cons (e_str) (a_nil))))) (ss_cons (s_if (PW.pt (w_or (t_cmp (op_neD hr.u64) b_ne (e_cb call_lenAll c_len (by rfl) t.n_len (by decide +kernel) (a_cons (e_v 3) (a_nil))) (e_int) (nomark _)) (w_or1 (t_cmp (op_neD hr.u64) b_ne (e_ix rfl (e_v 3) (e_int) (fun _ _ => rfl)) (e_str) (nomark _))))) (ss_one (s_ret (e_non))) (ss_nil)) (ss_cons (s_setC (i := 4) sc__law_stream.nd rfl (by first | exact .inl rfl | exact .inr rfl) (e_call (ok__law_number t) (hr.mono (by decide)) (by rfl) t.m__law_number t.F__law_number.kp t.b__law_number (a_cons (e_ix rfl (e_v 3) (e_int) (fun _ _ => rfl)) (a_cons (e_int) (a_cons (e_int) (a_nil)))))) (ss_cons (s_if (t_cmp op_isN1 b_isN (e_v 4) (e_non) (nomark _)) (ss_one (s_ret (e_non))) (ss_nil)) (ss_cons (s_setC (i := 5) sc__law_stream.nd rfl (by first | exact .inl rfl | exact .inr rfl) (e_call (ok__law_number t) (hr.mono (by decide)) (by rfl) t.m__law_number t.F__law_number.kp t.b__law_number (a_cons (e_ix rfl (e_v 3) (e_int) (fun _ _ => rfl)) (a_cons (e_int) (a_cons (e_v 4) (a_nil)))))) (ss_cons (s_setC (i := 6) sc__law_stream.nd rfl (by first | exact .inl rfl | exact .inr rfl) (e_call (ok__law_number t) (hr.mono (by decide)) (by rfl) t.m__law_number t.F__law_number.kp t.b__law_number (a_cons (e_ix rfl (e_v 3) (e_int) (fun _ _ => rfl)) (a_cons (e_int) (a_cons (e_int) (a_nil)))))) (ss_cons (s_setC (i := 7) sc__law_stream.nd rfl (by first | exact .inl rfl | exact .inr rfl) (e_call (ok__law_numbers t) (hr.mono (by decide)) (by rfl) t.m__law_numbers t.F__law_numbers.kp t.b__law_numbers (a_cons (e_ix rfl (e_v 3) (e_int) (fun _ _ => rfl)) (a_cons (e_int) (a_cons (e_bin op_sub b_sub (e_cb call_lenAll c_len (by rfl) t.n_len (by decide +kernel) (a_cons (e_v 1) (a_nil))) (e_int)) (a_nil)))))) (ss_cons (s_setC (i := 8) sc__law_stream.nd rfl (by first | exact .inl rfl | exact .inr rfl) (e_call (ok__law_numbers t) (hr.mono (by decide)) (by rfl) t.m__law_numbers t.F__law_numbers.kp t.b__law_numbers (a_cons (e_ix rfl (e_v 3) (e_int) (fun _ _ => rfl)) (a_cons (e_int) (a_cons (e_int) (a_nil)))))) (ss_cons (s_if (PW.pt (w_or (t_cmp op_isN1 b_isN (e_v 5) (e_non) (nomark _)) (w_or (t_cmp op_isN1 b_isN (e_v 6) (e_non) (nomark _)) (w_or (t_cmp op_isN1 b_isN (e_v 7) (e_non) (nomark _)) (w_or (t_cmp op_isN1 b_isN (e_v 8) (e_non) (nomark _)) (w_or1 (t_cmp (op_neD hr.u64) b_ne (e_cb call_lenAll c_len (by rfl) t.n_len (by decide +kernel) (a_cons (e_v 8) (a_nil))) (e_bin op_sub b_sub (e_cb call_lenAll c_len (by rfl) t.n_len (by decide +kernel) (a_cons (e_v 7) (a_nil))) (e_int)) (nomark _)))))))) (ss_one (s_ret (e_non))) (ss_nil)) (ss_cons (s_for PassesOwn.never rfl (i_r1 (by rfl) t.n_range (a_cons (e_cb call_lenAll c_len (by rfl) t.n_len (by decide +kernel) (a_cons (e_v 7) (a_nil))) (a_nil))) (g_name (i := 9) sc__law_stream.nd rfl (by first | exact .inl rfl | exact .inr rfl)) (ss_cons (s_if (PW.pt (w_or (t_cmp (op_inD hr.u65) b_in (e_ix rfl (e_v 7) (e_v 9) (fun _ _ => rfl)) (e_sl rfl (e_v 7) (o_none) (o_some (e_v 9))) (by rfl)) (w_or1 (t_cmp (op_neD hr.u64) b_ne (e_cmp (op_eqD hr.u64) b_eq (e_ix rfl (e_v 1) (e_ix rfl (e_v 7) (e_v 9) (fun _ _ => rfl)) (fun _ _ => rfl)) (e_str) (nomark _)) (e_or (e_cmp (op_eqD hr.u64) b_eq (e_v 9) (e_int) (nomark _)) (e_one (e_cmp (op_eqD hr.u64) b_eq (e_v 9) (e_bin op_sub b_sub (e_cb call_lenAll c_len (by rfl) t.n_len (by decide +kernel) (a_cons (e_v 7) (a_nil))) (e_int)) (nomark _)))) (nomark _))))) (ss_one (s_ret (e_non))) (ss_nil)) (ss_one (s_if (PW.pt (w_and (t_cmp op_gt b_gt (e_v 9) (e_int) (nomark _)) (w_and1 (t_not (t_val (e_call (ok__law_joined t) (hr.mono (by decide)) (by rfl) t.m__law_joined t.F__law_joined.kp t.b__law_joined (a_cons (e_v 2) (a_cons (e_ix rfl (e_v 7) (e_bin op_sub b_sub (e_v 9) (e_int)) (fun _ _ => rfl)) (a_cons (e_ix rfl (e_v 7) (e_v 9) (fun _ _ => rfl)) (a_nil)))))))))) (ss_one (s_ret (e_non))) (ss_nil))))) (ss_cons (s_if (t_cmp op_lt b_lt (e_cb call_lenAll c_len (by rfl) t.n_len (by decide +kernel) (a_cons (e_v 7) (a_nil))) (e_int) (nomark _)) (ss_one (s_ret (e_non))) (ss_nil)) (ss_one (s_ret (e_tup (a_cons (e_make t.mk_Stream (ok_Stream___init__ t) (hr.mono (by decide)) (by rfl) t.mC_Stream t.b_Stream___init__ (a_cons (e_v 4) (a_cons (e_v 5) (a_cons (e_v 6) (a_cons (e_v 7) (a_nil)))))) (a_cons (e_v 8) (a_nil))))))))))))))))) w__law_stream
theorem ok__law_due (t : Tx P K mg) : FnOk P w K mg base CX0 4 t.f__law_due t.d__law_due ["_law_rows_here"] (spC (tb P w t) c__law_due) :=
  fn_ok (T := tb P w t) (a := a__law_due) t.F__law_due sc__law_due l__law_due (by decide) (fun cdv A outer s H E hr =>
    ss_cons (s_if (t_cmp (op_eqD hr.u64) b_eq (e_cb call_lenAll c_len (by rfl) t.n_len (by decide +kernel) (a_cons (e_v 0) (a_nil))) (e_int) (nomark _)) (ss_one (s_ret (e_tup (a_cons (e_int) (a_cons (e_non) (a_nil)))))) (ss_nil)) (ss_cons (s_setC (i := 1) sc__law_due.nd rfl (by first | exact .inl rfl | exact .inr rfl) (e_split (pe_bm PySem.F.plainAttrs_str PySem.F.slot_str_split PySem.F.type_str_split mt_split (e_ix rfl (e_v 0) (e_int) (fun _ _ => rfl)) (a_cons (e_str) (a_nil))))) (ss_cons (s_if (PW.pt (w_or (t_cmp (op_neD hr.u64) b_ne (e_cb call_lenAll c_len (by rfl) t.n_len (by decide +kernel) (a_cons (e_v 1) (a_nil))) (e_int) (nomark _)) (w_or1 (t_cmp (op_neD hr.u64) b_ne (e_ix rfl (e_v 1) (e_int) (fun _ _ => rfl)) (e_str) (nomark _))))) (ss_one (s_ret (e_tup (a_cons (e_int) (a_cons (e_non) (a_nil)))))) (ss_nil)) (ss_cons (s_setC (i := 2) sc__law_due.nd rfl (by first | exact .inl rfl | exact .inr rfl) (e_call (ok__law_number t) (hr.mono (by decide)) (by rfl) t.m__law_number t.F__law_number.kp t.b__law_number (a_cons (e_ix rfl (e_v 1) (e_int) (fun _ _ => rfl)) (a_cons (e_int) (a_cons (e_int) (a_nil)))))) (ss_cons (s_setC (i := 3) sc__law_due.nd rfl (by first | exact .inl rfl | exact .inr rfl) (e_call (ok__law_number t) (hr.mono (by decide)) (by rfl) t.m__law_number t.F__law_number.kp t.b__law_number (a_cons (e_ix rfl (e_v 1) (e_int) (fun _ _ => rfl)) (a_cons (e_int) (a_cons (e_int) (a_nil)))))) (ss_cons (s_if (PW.pt (w_or (t_cmp op_isN1 b_isN (e_v 2) (e_non) (nomark _)) (w_or1 (t_cmp op_isN1 b_isN (e_v 3) (e_non) (nomark _))))) (ss_one (s_ret (e_tup (a_cons (e_int) (a_cons (e_non) (a_nil)))))) (ss_nil)) (ss_cons (s_set (i := 4) sc__law_due.nd rfl (by first | exact .inl rfl | exact .inr rfl) (e_lst (a_nil))) (ss_cons (s_set (i := 5) sc__law_due.nd rfl (by first | exact .inl rfl | exact .inr rfl) (e_lst (a_nil))) (ss_cons (s_set (i := 6) sc__law_due.nd rfl (by first | exact .inl rfl | exact .inr rfl) (e_lst (a_nil))) (ss_cons (s_setC (i := 7) sc__law_due.nd rfl (by first | exact .inl rfl | exact .inr rfl) (e_int)) (ss_cons (s_for PassesOwn.never rfl (i_r2 (by rfl) t.n_range (a_cons (e_int) (a_cons (e_cb call_lenAll c_len (by rfl) t.n_len (by decide +kernel) (a_cons (e_v 0) (a_nil))) (a_nil)))) (g_name (i := 8) sc__law_due.nd rfl (by first | exact .inl rfl | exact .inr rfl)) (ss_cons (s_setC (i := 9) sc__law_due.nd rfl (by first | exact .inl rfl | exact .inr rfl) (e_ix rfl (e_split (pe_bm PySem.F.plainAttrs_str PySem.F.slot_str_split PySem.F.type_str_split mt_split (e_ix rfl (e_v 0) (e_v 8) (fun _ _ => rfl)) (a_cons (e_str) (a_nil)))) (e_int) (fun _ _ => rfl))) (ss_one (s_if (PW.pt (w_and (t_cmp (op_eqD hr.u64) b_eq (e_v 7) (e_int) (nomark _)) (w_and1 (t_cmp (op_inD hr.u65) b_in (e_ix rfl (e_v 0) (e_v 8) (fun _ _ => rfl)) (e_lst (a_cons (e_str) (a_cons (e_str) (a_nil)))) (by rfl))))) (ss_one (s_mut m_append rfl (ps_expr (pe_bm PySem.F.plainAttrs_list PySem.F.slot_list_append PySem.F.type_list_append mt_append (pv 4) (a_cons (e_ix rfl (e_v 0) (e_v 8) (fun _ _ => rfl)) (a_nil)))))) (ss_one (s_if (t_cmp (op_eqD hr.u64) b_eq (e_cb call_lenAll c_len (by rfl) t.n_len (by decide +kernel) (a_cons (e_v 4) (a_nil))) (e_int) (nomark _)) (ss_one (s_ret (e_tup (a_cons (e_v 8) (a_cons (e_non) (a_nil)))))) (ss_one (s_if (PW.pt (w_and (t_cmp op_le b_le (e_v 7) (e_int) (nomark _)) (w_and1 (t_cmp (op_eqD hr.u64) b_eq (e_v 9) (e_str) (nomark _))))) (ss_cons (s_setC (i := 7) sc__law_due.nd rfl (by first | exact .inl rfl | exact .inr rfl) (e_int)) (ss_cons (s_setC (i := 10) sc__law_due.nd rfl (by first | exact .inl rfl | exact .inr rfl) (e_call (ok__law_line t) (hr.mono (by decide)) (by rfl) t.m__law_line t.F__law_line.kp t.b__law_line (a_cons (e_ix rfl (e_v 0) (e_v 8) (fun _ _ => rfl)) (a_cons (e_v 4) (a_cons (e_v 5) (a_nil)))))) (ss_cons (s_if (t_cmp op_isN1 b_isN (e_v 10) (e_non) (nomark _)) (ss_one (s_ret (e_tup (a_cons (e_v 8) (a_cons (e_non) (a_nil)))))) (ss_nil)) (ss_one (s_mut m_append rfl (ps_expr (pe_bm PySem.F.plainAttrs_list PySem.F.slot_list_append PySem.F.type_list_append mt_append (pv 5) (a_cons (e_v 10) (a_nil))))))))) (ss_cons (s_setC (i := 7) sc__law_due.nd rfl (by first | exact .inl rfl | exact .inr rfl) (e_int)) (ss_cons (s_setC (i := 11) sc__law_due.nd rfl (by first | exact .inl rfl | exact .inr rfl) (e_call (ok__law_stream t) (hr.mono (by decide)) (by rfl) t.m__law_stream t.F__law_stream.kp t.b__law_stream (a_cons (e_ix rfl (e_v 0) (e_v 8) (fun _ _ => rfl)) (a_cons (e_v 4) (a_cons (e_v 5) (a_nil)))))) (ss_cons (s_if (t_cmp op_isN1 b_isN (e_v 11) (e_non) (nomark _)) (ss_one (s_ret (e_tup (a_cons (e_v 8) (a_cons (e_non) (a_nil)))))) (ss_nil)) (ss_one (s_mut m_append rfl (ps_expr (pe_bm PySem.F.plainAttrs_list PySem.F.slot_list_append PySem.F.type_list_append mt_append (pv 6) (a_cons (e_v 11) (a_nil))))))))))))))))) (ss_cons (s_if (t_cmp (op_eqD hr.u64) b_eq (e_cb call_lenAll c_len (by rfl) t.n_len (by decide +kernel) (a_cons (e_v 4) (a_nil))) (e_int) (nomark _)) (ss_one (s_ret (e_tup (a_cons (e_int) (a_cons (e_non) (a_nil)))))) (ss_nil)) (ss_one (s_frz 6 (s_frz 5 (s_frz 4 (s_ret (e_tup (a_cons (e_non) (a_cons (e_tup (a_cons (e_v 2) (a_cons (e_v 3) (a_cons (e_v 4) (a_cons (e_v 5) (a_cons (e_v 6) (a_nil))))))) (a_nil))))))))))))))))))))) w__law_due
theorem ok_end (t : Tx P K mg) : FnOk P w K mg base CX0 9 t.f_law t.d_law ["_law_script"] (spLaw K) :=
  fn_okLaw (T := tb P w t) (a := a_law) (c := c_law) rfl t.F_law sc_law (by decide) (fun cdv A outer s H E hr =>
    st_cons (s_setC (i := 1) sc_law.nd rfl (by first | exact .inl rfl | exact .inr rfl) (e_call (ok__law_rows t) (hr.mono (by decide)) (by rfl) t.m__law_rows t.F__law_rows.kp t.b__law_rows (a_cons (e_call (ok__law_draw t) (hr.mono (by decide)) (by rfl) t.m__law_draw t.F__law_draw.kp t.b__law_draw (a_cons (e_call (ok__law_cell t) (hr.mono (by decide)) (by rfl) t.m__law_cell t.F__law_cell.kp t.b__law_cell (a_cons (e_v 0) (a_cons (e_int) (a_nil)))) (a_cons (e_int) (a_cons (e_bin op_shl b_shl (e_int) (e_int)) (a_nil))))) (a_nil)))) (st_cons (s_setC (i := 2) sc_law.nd rfl (by first | exact .inl rfl | exact .inr rfl) (e_call (ok__law_draw t) (hr.mono (by decide)) (by rfl) t.m__law_draw t.F__law_draw.kp t.b__law_draw (a_cons (e_call (ok__law_cell t) (hr.mono (by decide)) (by rfl) t.m__law_cell t.F__law_cell.kp t.b__law_cell (a_cons (e_v 0) (a_cons (e_int) (a_nil)))) (a_cons (e_int) (a_cons (e_bin op_shl b_shl (e_int) (e_int)) (a_nil)))))) (st_cons (s_setC (i := 1) sc_law.nd rfl (by first | exact .inl rfl | exact .inr rfl) (e_call (ok__law_spoilt t) (hr.mono (by decide)) (by rfl) t.m__law_spoilt t.F__law_spoilt.kp t.b__law_spoilt (a_cons (e_v 1) (a_cons (e_v 2) (a_nil))))) (st_cut (s_if (PW.pt (w_and (t_cmp (op_eqD hr.u64) b_eq (e_bin op_mod b_mod (e_bin op_fdiv b_div (e_ix rfl (e_v 2) (e_int) (fun _ _ => rfl)) (e_int)) (e_int)) (e_int) (nomark _)) (w_and1 (t_cmp op_gt b_gt (e_cb call_lenAll c_len (by rfl) t.n_len (by decide +kernel) (a_cons (e_v 1) (a_nil))) (e_int) (nomark _))))) (ss_one (s_setC (i := 1) sc_law.nd rfl (by first | exact .inl rfl | exact .inr rfl) (e_call (ok__law_spoilt t) (hr.mono (by decide)) (by rfl) t.m__law_spoilt t.F__law_spoilt.kp t.b__law_spoilt (a_cons (e_v 1) (a_cons (e_call (ok__law_draw t) (hr.mono (by decide)) (by rfl) t.m__law_draw t.F__law_draw.kp t.b__law_draw (a_cons (e_call (ok__law_cell t) (hr.mono (by decide)) (by rfl) t.m__law_cell t.F__law_cell.kp t.b__law_cell (a_cons (e_v 0) (a_cons (e_int) (a_nil)))) (a_cons (e_int) (a_cons (e_bin op_shl b_shl (e_int) (e_int)) (a_nil))))) (a_nil)))))) (ss_nil)) (st_cons (s_setC (i := 3) sc_law.nd rfl (by first | exact .inl rfl | exact .inr rfl) (e_join rfl (pe_bm PySem.F.plainAttrs_str PySem.F.slot_str_join PySem.F.type_str_join mt_join (e_str) (a_cons (e_lcG (own := [("_law_row", 4)]) rfl sc_law.nd (i_lstG rfl (e_v 1)) (blkOk_by (own := [("_law_row", 4)]) (N := N_law) (sc := defScope s_law) (by decide +kernel)) (by decide) (fun _ _ _ _ _ => g_name (i := 4) sc_law.nd rfl (by first | exact .inl rfl | exact .inr rfl)) (fun _ _ _ _ _ => ts_nil) (fun _ _ _ _ _ => e_bin op_addAll b_add (e_v 4) (e_str))) (a_nil))))) (st_cons (s_asgG (e_call (ok__law_due t) (hr.mono (by decide)) (by rfl) t.m__law_due t.F__law_due.kp t.b__law_due (a_cons (e_v 1) (a_nil))) (g_tup rfl (g_cons (g_name (i := 5) sc_law.nd rfl (by first | exact .inl rfl | exact .inr rfl)) (g_cons (g_name (i := 6) sc_law.nd rfl (by first | exact .inl rfl | exact .inr rfl)) (g_nil))))) (st_cut (s_if (PW.pt (w_and (t_cmp (op_eqD hr.u64) b_eq (e_bin op_mod b_mod (e_bin op_fdiv b_div (e_ix rfl (e_v 2) (e_int) (fun _ _ => rfl)) (e_int)) (e_int)) (e_int) (nomark _)) (w_and (t_cmp op_gt b_gt (e_cb call_lenAll c_len (by rfl) t.n_len (by decide +kernel) (a_cons (e_v 3) (a_nil))) (e_int) (nomark _)) (w_and1 (t_cmp op_gt b_gt (e_cb call_lenAll c_len (by rfl) t.n_len (by decide +kernel) (a_cons (e_ix rfl (e_v 1) (e_bin op_sub b_sub (e_cb call_lenAll c_len (by rfl) t.n_len (by decide +kernel) (a_cons (e_v 1) (a_nil))) (e_int)) (fun _ _ => rfl)) (a_nil))) (e_int) (nomark _)))))) (ss_cons (s_setC (i := 3) sc_law.nd rfl (by first | exact .inl rfl | exact .inr rfl) (e_slS (e_v 3) (o_none) (o_some (e_bin op_sub b_sub (e_cb call_lenAll c_len (by rfl) t.n_len (by decide +kernel) (a_cons (e_v 3) (a_nil))) (e_int))))) (ss_one (s_if (PW.pt (w_or (t_cmp op_isN1 b_isN (e_v 5) (e_non) (nomark _)) (w_or1 (t_cmp op_gt b_gt (e_v 5) (e_bin op_sub b_sub (e_cb call_lenAll c_len (by rfl) t.n_len (by decide +kernel) (a_cons (e_v 1) (a_nil))) (e_int)) (nomark _))))) (ss_cons (s_setC (i := 5) sc_law.nd rfl (by first | exact .inl rfl | exact .inr rfl) (e_bin op_sub b_sub (e_cb call_lenAll c_len (by rfl) t.n_len (by decide +kernel) (a_cons (e_v 1) (a_nil))) (e_int))) (ss_one (s_setC (i := 6) sc_law.nd rfl (by first | exact .inl rfl | exact .inr rfl) (e_non)))) (ss_nil)))) (ss_nil)) (s_tryRd (i := 9) (jy := 5) (c := c_read_text) rfl rfl sc_law.nd rfl rfl ⟨by rfl, by decide, .inl t.xmM⟩ (by decide) t.xisC t.xcl t.xfC t.xk.nn t.xk.np t.xexm t.xkit (by decide +kernel) (by rfl) t.n_isinstance (by rfl) t.xm rfl (fun _ _ _ _ => pv 9) (fun _ _ _ _ => pv 5) (fun W pn xe tkW => pss_one (ps_asg (pe_callS (ok_read_text t) (hr.mono (by decide)) (by rfl) t.m_read_text t.F_read_text.kp t.b_read_text (passAt tkW) (a_cons (e_v 3) (a_nil))) (g_tup rfl (g_cons (g_name (i := 7) sc_law.nd rfl (by first | exact .inl rfl | exact .inr rfl)) (g_cons (g_name (i := 8) sc_law.nd rfl (by first | exact .inl rfl | exact .inr rfl)) (g_nil)))))) (st_last (ss_cons (s_if (PW.pt (w_or (t_cmp op_isN1 b_isN (e_v 6) (e_non) (nomark _)) (w_or (t_cmp (op_neD hr.u64) b_ne (e_fld rfl t.cl_Net t.n_Net_processing nd_Net rfl (e_v 7)) (e_ix rfl (e_v 6) (e_int) (fun _ _ => rfl)) (nomark _)) (w_or (t_cmp (op_neD hr.u64) b_ne (e_fld rfl t.cl_Net t.n_Net_error nd_Net rfl (e_v 7)) (e_ix rfl (e_v 6) (e_int) (fun _ _ => rfl)) (nomark _)) (w_or (t_cmp (op_neD hr.u64) b_ne (e_fld rfl t.cl_Net t.n_Net_kinds nd_Net rfl (e_v 7)) (e_ix rfl (e_v 6) (e_int) (fun _ _ => rfl)) (nomark _)) (w_or1 (t_cmp (op_neD hr.u64) b_ne (e_fld rfl t.cl_Net t.n_Net_lines nd_Net rfl (e_v 7)) (e_ix rfl (e_v 6) (e_int) (fun _ _ => rfl)) (nomark _)))))))) (ss_one (s_ret (e_bl))) (ss_nil)) (ss_one (s_ret (e_cmp (op_eqS (k := 2) (g := g_Stream) rfl (ok_Stream___eq__ t) hct_Stream t.mt_Stream___eq__ t.b_Stream___eq__ hr (by decide)) b_eqS (e_v 8) (e_ix rfl (e_v 6) (e_int) (fun _ _ => rfl)) (nomark _)))))))))))))) (fun ns P h q => w_law _ _ ⟨ns, rfl, h, q⟩)
end
theorem all_mk {l : PySem.W.OpenLaw} {w : World} {K : PySem.W.Frag} {h : Heap} {mg : Str → Option Value} {fa C_InvalidText C_MetronetError f_xi f_xm C_Net C_Stream f0 f1 f2 f3 f4 f5 f6 f7 f8 f9 f10 f11 f12 f13 f14 f15 f16 f17 f18 f19 f20 f21 f22 f23 f24 : Addr} (X : K.In h) (G : h.Ns mainGlobals mg) (hfa : mg "law" = some (.ref fa))
    {oci kVi dci pmi cti ccli cli : Value} {odi ani cddi cldi : Option Addr} {cdai cci : Addr} {osli ccsi csli : Array (Option Value)} {vsi : Array Value} {filei : Str} {tfi : Tok}
    {ocm kVm dcm pmm ctm cclm clm : Value} {odm anm cddm cldm : Option Addr} {cdam ccm : Addr} {oslm ccsm cslm : Array (Option Value)} {vsm : Array Value} {filem : Str} {tfm : Tok}
    {Tm tn : Nat} {tcl : Value} {tod : Option Addr} {tdv : Value} {tsl : Array (Option Value)}
    {xnm xqn : Str} {xN : Addr} {xbs xbm : List Value} {xsn : List Str} {xsb : List Value} {xab : Bool} {xcol : Option Bool} {xdd : Option Addr} {xk0 xk1 xk2 xk3 xk5 : Option Value} {xcd1 xcd2 : ClassData}
    (zX : PySem.W.nsIn K mainGlobals "InvalidText" = some (some (.ref C_InvalidText))) (zM : PySem.W.nsIn K mainGlobals "MetronetError" = some (some (.ref C_MetronetError))) (xlk : K.lookup C_InvalidText = some (excClassObj xnm xqn C_InvalidText xN xbs xbm true xsn xsb xab xcol xdd xk0 xk1 xk2 xk3 xk5 "ValueError.__new__")) (xrf : PySem.HandSPX.refsVE xbm = true) (xsa : PySem.W.findIn K (.ref C_InvalidText) "__setattr__" = some (some (.builtin "object.__setattr__"))) (xex : PySem.W.subIn K (.ref C_InvalidText) (.type "BaseException") = some true) (xty : PySem.W.typeIn K (.ref C_InvalidText) = some (.type "type")) (xkp : PySem.W.keepIn K (.ref C_InvalidText) = true) (xin : PySem.W.excInitIn K C_InvalidText [.type "ValueError", .type "Exception", .type "BaseException", .type "object"] "ValueError.__new__" = true) (xsu : PySem.W.ks_superIn K C_InvalidText C_MetronetError "__init__" = some (some (.builtin "ValueError.__init__"))) (xmr : PySem.W.mroIn K C_InvalidText (.ref C_MetronetError) = some true) (xsv : PySem.W.subIn K (.ref C_InvalidText) (.type "ValueError") = some true) (xcD : PySem.W.clsIn K C_MetronetError = some xcd1) (xcC : PySem.W.clsIn K C_InvalidText = some xcd2) (xop : PySem.W.nsIn K cStatics "thirdparty.any" = some none) (xnp : PySem.W.findIn K (.ref C_InvalidText) "place" = some none) (xnn : PySem.W.findIn K (.ref C_InvalidText) "name" = some none) (xii : PySem.W.findIn K (.ref C_InvalidText) "__init__" = some (some (.ref f_xi))) (xss : PySem.W.ks_superIn K C_InvalidText C_InvalidText "__init__" = some (some (.ref f_xm))) (xmm : PySem.W.mroIn K C_InvalidText (.ref C_InvalidText) = some true) (xt : PySem.W.typeIn K (.ref f_xi) = some (.type "function")) (xt2 : PySem.W.typeIn K (.ref f_xm) = some (.type "function")) (li : K.lookup f_xi = some ⟨oci, odi, .func (PySem.W.ksFn "__init__" "InvalidText.__init__" (defArgs s_xi) (defBody s_xi) (defScope s_xi) .none kVi dci pmi ani (.ref cdai) cti cci), osli⟩) (ci_ : PySem.W.codeIn K (.ref cdai) "InvalidText.__init__" = true) (lci : K.lookup cdai = some ⟨ccli, cddi, .fields vsi, ccsi⟩) (v2i : vsi[2]? = some (.str filei tfi)) (hfi : ((l.prog.main.file : Str) == filei) = true) (lcci : K.lookup cci = some ⟨cli, cldi, .cell (some (.ref C_InvalidText)), csli⟩) (lm : K.lookup f_xm = some ⟨ocm, odm, .func (PySem.W.ksFn "__init__" "MetronetError.__init__" (defArgs s_xm) (defBody s_xm) (defScope s_xm) (.ref Tm) kVm dcm pmm anm (.ref cdam) ctm ccm), oslm⟩) (cm_ : PySem.W.codeIn K (.ref cdam) "MetronetError.__init__" = true) (lcm : K.lookup cdam = some ⟨cclm, cddm, .fields vsm, ccsm⟩) (v2m : vsm[2]? = some (.str filem tfm)) (hfm : ((l.prog.main.file : Str) == filem) = true) (lccm : K.lookup ccm = some ⟨clm, cldm, .cell (some (.ref C_MetronetError)), cslm⟩) (ldm : K.lookup Tm = some ⟨tcl, tod, .seq #[tdv] tn, tsl⟩) (xtop : (l.prog.main.scope.names.lookup ("super" : Str)).isSome = false) (xns : PySem.W.nsIn K mainGlobals "super" = some none) (xhg : PySem.W.findIn K (.ref C_InvalidText) "__getattribute__" = some (some (.builtin "BaseException.__getattribute__"))) (xhk : PySem.W.findIn K (.ref C_InvalidText) "__getattr__" = some none) (xhd : PySem.W.hasDictIn K C_InvalidText = true) (xha : PySem.W.findIn K (.ref C_InvalidText) "__class__" = some (some (.builtin "object.__class__"))) (xhn : PySem.W.specialIn K (.builtin "object.__class__") "__get__" = some (some (.builtin "getset_descriptor.__get__"))) (xht : PySem.W.takesIn K (.builtin "object.__class__") = some true) (xhm : PySem.W.mroIn K C_InvalidText (.type "object") = some true) (xem : PySem.W.exmOne K (.ref C_InvalidText) (.ref C_MetronetError) = some true) (xkk : PySem.W.kitOne K (.ref C_InvalidText) (.ref C_InvalidText) = some true)
    (zC_Net : PySem.W.nsIn K mainGlobals "Net" = some (some (.ref C_Net))) (pg_Net : PySem.W.plainGet K C_Net Str.empty = true) (hd_Net : PySem.W.hasDictIn K C_Net = true) (po_Net : PySem.W.plainOver K C_Net = true) (sa_Net : PySem.W.findIn K (.ref C_Net) "__setattr__" = some (some (.builtin "object.__setattr__"))) (mk_Net : PySem.W.makesIn K C_Net = true) (kc_Net : PySem.W.keepIn K (.ref C_Net) = true)
    (nf_Net_kinds : PySem.W.findIn K (.ref C_Net) "kinds" = some none)
    (nf_Net_lines : PySem.W.findIn K (.ref C_Net) "lines" = some none)
    (nf_Net_processing : PySem.W.findIn K (.ref C_Net) "processing" = some none)
    (nf_Net_error : PySem.W.findIn K (.ref C_Net) "error" = some none)
    (zC_Stream : PySem.W.nsIn K mainGlobals "Stream" = some (some (.ref C_Stream))) (pg_Stream : PySem.W.plainGet K C_Stream Str.empty = true) (hd_Stream : PySem.W.hasDictIn K C_Stream = true) (po_Stream : PySem.W.plainOver K C_Stream = true) (sa_Stream : PySem.W.findIn K (.ref C_Stream) "__setattr__" = some (some (.builtin "object.__setattr__"))) (mk_Stream : PySem.W.makesIn K C_Stream = true) (kc_Stream : PySem.W.keepIn K (.ref C_Stream) = true)
    (qa_Stream : PySem.W.findIn K (.ref C_Stream) "__class__" = some (some (.builtin "object.__class__"))) (qn_Stream : PySem.W.specialIn K (.builtin "object.__class__") "__get__" = some (some (.builtin "getset_descriptor.__get__"))) (qt_Stream : PySem.W.takesIn K (.builtin "object.__class__") = some true) (qm_Stream : PySem.W.mroIn K C_Stream (.type "object") = some true) (qe_Stream : PySem.W.isClsIn K C_Stream = true) (qy_Stream : PySem.W.typeIn K (.ref C_Stream) = some (.type "type")) (ql_Stream : PySem.W.subIn K (.type "list") (.ref C_Stream) = some false) (qi_Stream : PySem.W.subIn K (.type "int") (.ref C_Stream) = some false)
    (nf_Stream_period : PySem.W.findIn K (.ref C_Stream) "period" = some none)
    (nf_Stream_length : PySem.W.findIn K (.ref C_Stream) "length" = some none)
    (nf_Stream_deadline : PySem.W.findIn K (.ref C_Stream) "deadline" = some none)
    (nf_Stream_path : PySem.W.findIn K (.ref C_Stream) "path" = some none)
    {od0 an0 : Option Addr} {sl0 : Array (Option Value)} {oc0 kV0 dc0 pm0 cd0 ct0 : Value}
    (a0 : PySem.W.findIn K (.ref C_Stream) "__init__" = some (some (.ref f0))) (i0 : PySem.W.isFn K (.ref f0) = true) (l0 : K.lookup f0 = some ⟨oc0, od0, .func (PySem.W.fnOf "__init__" "Stream.__init__" (defArgs s_Stream___init__) (defBody s_Stream___init__) (defScope s_Stream___init__) .none kV0 dc0 pm0 an0 cd0 ct0), sl0⟩) (c0 : PySem.W.codeIn K cd0 "Stream.__init__" = true) (k0 : PySem.W.keepIn K (.ref f0) = true)
    {od1 an1 : Option Addr} {sl1 : Array (Option Value)} {oc1 kV1 dc1 pm1 cd1 ct1 : Value}
    (a1 : PySem.W.findIn K (.ref C_Stream) "__eq__" = some (some (.ref f1))) (i1 : PySem.W.isFn K (.ref f1) = true) (l1 : K.lookup f1 = some ⟨oc1, od1, .func (PySem.W.fnOf "__eq__" "Stream.__eq__" (defArgs s_Stream___eq__) (defBody s_Stream___eq__) (defScope s_Stream___eq__) .none kV1 dc1 pm1 an1 cd1 ct1), sl1⟩) (c1 : PySem.W.codeIn K cd1 "Stream.__eq__" = true) (k1 : PySem.W.keepIn K (.ref f1) = true)
    {od2 an2 : Option Addr} {sl2 : Array (Option Value)} {oc2 kV2 dc2 pm2 cd2 ct2 : Value}
    (a2 : PySem.W.findIn K (.ref C_Net) "__init__" = some (some (.ref f2))) (i2 : PySem.W.isFn K (.ref f2) = true) (l2 : K.lookup f2 = some ⟨oc2, od2, .func (PySem.W.fnOf "__init__" "Net.__init__" (defArgs s_Net___init__) (defBody s_Net___init__) (defScope s_Net___init__) .none kV2 dc2 pm2 an2 cd2 ct2), sl2⟩) (c2 : PySem.W.codeIn K cd2 "Net.__init__" = true) (k2 : PySem.W.keepIn K (.ref f2) = true)
    {od3 an3 : Option Addr} {sl3 : Array (Option Value)} {oc3 kV3 dc3 pm3 cd3 ct3 : Value}
    (a3 : PySem.W.nsIn K mainGlobals "_number" = some (some (.ref f3))) (l3 : K.lookup f3 = some ⟨oc3, od3, .func (PySem.W.fnOf "_number" "_number" (defArgs s__number) (defBody s__number) (defScope s__number) .none kV3 dc3 pm3 an3 cd3 ct3), sl3⟩) (c3 : PySem.W.codeIn K cd3 "_number" = true) (k3 : PySem.W.keepIn K (.ref f3) = true)
    {od4 an4 : Option Addr} {sl4 : Array (Option Value)} {oc4 kV4 dc4 pm4 cd4 ct4 : Value}
    (a4 : PySem.W.nsIn K mainGlobals "_words" = some (some (.ref f4))) (l4 : K.lookup f4 = some ⟨oc4, od4, .func (PySem.W.fnOf "_words" "_words" (defArgs s__words) (defBody s__words) (defScope s__words) .none kV4 dc4 pm4 an4 cd4 ct4), sl4⟩) (c4 : PySem.W.codeIn K cd4 "_words" = true) (k4 : PySem.W.keepIn K (.ref f4) = true)
    {od5 an5 : Option Addr} {sl5 : Array (Option Value)} {oc5 kV5 dc5 pm5 cd5 ct5 : Value}
    (a5 : PySem.W.findIn K (.ref C_Net) "delay" = some (some (.ref f5))) (i5 : PySem.W.isFn K (.ref f5) = true) (l5 : K.lookup f5 = some ⟨oc5, od5, .func (PySem.W.fnOf "delay" "Net.delay" (defArgs s_Net_delay) (defBody s_Net_delay) (defScope s_Net_delay) .none kV5 dc5 pm5 an5 cd5 ct5), sl5⟩) (c5 : PySem.W.codeIn K cd5 "Net.delay" = true) (k5 : PySem.W.keepIn K (.ref f5) = true)
    {od6 an6 : Option Addr} {sl6 : Array (Option Value)} {oc6 kV6 dc6 pm6 cd6 ct6 : Value}
    (a6 : PySem.W.nsIn K mainGlobals "_read_line" = some (some (.ref f6))) (l6 : K.lookup f6 = some ⟨oc6, od6, .func (PySem.W.fnOf "_read_line" "_read_line" (defArgs s__read_line) (defBody s__read_line) (defScope s__read_line) .none kV6 dc6 pm6 an6 cd6 ct6), sl6⟩) (c6 : PySem.W.codeIn K cd6 "_read_line" = true) (k6 : PySem.W.keepIn K (.ref f6) = true)
    {od7 an7 : Option Addr} {sl7 : Array (Option Value)} {oc7 kV7 dc7 pm7 cd7 ct7 : Value}
    (a7 : PySem.W.nsIn K mainGlobals "ports_of" = some (some (.ref f7))) (l7 : K.lookup f7 = some ⟨oc7, od7, .func (PySem.W.fnOf "ports_of" "ports_of" (defArgs s_ports_of) (defBody s_ports_of) (defScope s_ports_of) .none kV7 dc7 pm7 an7 cd7 ct7), sl7⟩) (c7 : PySem.W.codeIn K cd7 "ports_of" = true) (k7 : PySem.W.keepIn K (.ref f7) = true)
    {od8 an8 : Option Addr} {sl8 : Array (Option Value)} {oc8 kV8 dc8 pm8 cd8 ct8 : Value}
    (a8 : PySem.W.nsIn K mainGlobals "is_path" = some (some (.ref f8))) (l8 : K.lookup f8 = some ⟨oc8, od8, .func (PySem.W.fnOf "is_path" "is_path" (defArgs s_is_path) (defBody s_is_path) (defScope s_is_path) .none kV8 dc8 pm8 an8 cd8 ct8), sl8⟩) (c8 : PySem.W.codeIn K cd8 "is_path" = true) (k8 : PySem.W.keepIn K (.ref f8) = true)
    {od9 an9 : Option Addr} {sl9 : Array (Option Value)} {oc9 kV9 dc9 pm9 cd9 ct9 : Value}
    (a9 : PySem.W.nsIn K mainGlobals "_read_stream" = some (some (.ref f9))) (l9 : K.lookup f9 = some ⟨oc9, od9, .func (PySem.W.fnOf "_read_stream" "_read_stream" (defArgs s__read_stream) (defBody s__read_stream) (defScope s__read_stream) .none kV9 dc9 pm9 an9 cd9 ct9), sl9⟩) (c9 : PySem.W.codeIn K cd9 "_read_stream" = true) (k9 : PySem.W.keepIn K (.ref f9) = true)
    {od10 an10 : Option Addr} {sl10 : Array (Option Value)} {oc10 kV10 dc10 pm10 cd10 ct10 : Value}
    (a10 : PySem.W.nsIn K mainGlobals "_read_kinds" = some (some (.ref f10))) (l10 : K.lookup f10 = some ⟨oc10, od10, .func (PySem.W.fnOf "_read_kinds" "_read_kinds" (defArgs s__read_kinds) (defBody s__read_kinds) (defScope s__read_kinds) .none kV10 dc10 pm10 an10 cd10 ct10), sl10⟩) (c10 : PySem.W.codeIn K cd10 "_read_kinds" = true) (k10 : PySem.W.keepIn K (.ref f10) = true)
    {od11 an11 : Option Addr} {sl11 : Array (Option Value)} {oc11 kV11 dc11 pm11 cd11 ct11 : Value}
    (a11 : PySem.W.nsIn K mainGlobals "_read_rows" = some (some (.ref f11))) (l11 : K.lookup f11 = some ⟨oc11, od11, .func (PySem.W.fnOf "_read_rows" "_read_rows" (defArgs s__read_rows) (defBody s__read_rows) (defScope s__read_rows) .none kV11 dc11 pm11 an11 cd11 ct11), sl11⟩) (c11 : PySem.W.codeIn K cd11 "_read_rows" = true) (k11 : PySem.W.keepIn K (.ref f11) = true)
    {od12 an12 : Option Addr} {sl12 : Array (Option Value)} {oc12 kV12 dc12 pm12 cd12 ct12 : Value}
    (a12 : PySem.W.nsIn K mainGlobals "read_text" = some (some (.ref f12))) (l12 : K.lookup f12 = some ⟨oc12, od12, .func (PySem.W.fnOf "read_text" "read_text" (defArgs s_read_text) (defBody s_read_text) (defScope s_read_text) .none kV12 dc12 pm12 an12 cd12 ct12), sl12⟩) (c12 : PySem.W.codeIn K cd12 "read_text" = true) (k12 : PySem.W.keepIn K (.ref f12) = true)
    {od13 an13 : Option Addr} {sl13 : Array (Option Value)} {oc13 kV13 dc13 pm13 cd13 ct13 : Value}
    (a13 : PySem.W.nsIn K mainGlobals "_law_draw" = some (some (.ref f13))) (l13 : K.lookup f13 = some ⟨oc13, od13, .func (PySem.W.fnOf "_law_draw" "_law_draw" (defArgs s__law_draw) (defBody s__law_draw) (defScope s__law_draw) .none kV13 dc13 pm13 an13 cd13 ct13), sl13⟩) (c13 : PySem.W.codeIn K cd13 "_law_draw" = true) (k13 : PySem.W.keepIn K (.ref f13) = true)
    {od14 an14 : Option Addr} {sl14 : Array (Option Value)} {oc14 kV14 dc14 pm14 cd14 ct14 : Value}
    (a14 : PySem.W.nsIn K mainGlobals "_law_cell" = some (some (.ref f14))) (l14 : K.lookup f14 = some ⟨oc14, od14, .func (PySem.W.fnOf "_law_cell" "_law_cell" (defArgs s__law_cell) (defBody s__law_cell) (defScope s__law_cell) .none kV14 dc14 pm14 an14 cd14 ct14), sl14⟩) (c14 : PySem.W.codeIn K cd14 "_law_cell" = true) (k14 : PySem.W.keepIn K (.ref f14) = true)
    {od15 an15 : Option Addr} {sl15 : Array (Option Value)} {oc15 kV15 dc15 pm15 cd15 ct15 : Value}
    (a15 : PySem.W.nsIn K mainGlobals "_law_rows" = some (some (.ref f15))) (l15 : K.lookup f15 = some ⟨oc15, od15, .func (PySem.W.fnOf "_law_rows" "_law_rows" (defArgs s__law_rows) (defBody s__law_rows) (defScope s__law_rows) .none kV15 dc15 pm15 an15 cd15 ct15), sl15⟩) (c15 : PySem.W.codeIn K cd15 "_law_rows" = true) (k15 : PySem.W.keepIn K (.ref f15) = true)
    {od16 an16 : Option Addr} {sl16 : Array (Option Value)} {oc16 kV16 dc16 pm16 cd16 ct16 : Value}
    (a16 : PySem.W.nsIn K mainGlobals "_law_word" = some (some (.ref f16))) (l16 : K.lookup f16 = some ⟨oc16, od16, .func (PySem.W.fnOf "_law_word" "_law_word" (defArgs s__law_word) (defBody s__law_word) (defScope s__law_word) .none kV16 dc16 pm16 an16 cd16 ct16), sl16⟩) (c16 : PySem.W.codeIn K cd16 "_law_word" = true) (k16 : PySem.W.keepIn K (.ref f16) = true)
    {od17 an17 : Option Addr} {sl17 : Array (Option Value)} {oc17 kV17 dc17 pm17 cd17 ct17 : Value}
    (a17 : PySem.W.nsIn K mainGlobals "_law_spoilt" = some (some (.ref f17))) (l17 : K.lookup f17 = some ⟨oc17, od17, .func (PySem.W.fnOf "_law_spoilt" "_law_spoilt" (defArgs s__law_spoilt) (defBody s__law_spoilt) (defScope s__law_spoilt) .none kV17 dc17 pm17 an17 cd17 ct17), sl17⟩) (c17 : PySem.W.codeIn K cd17 "_law_spoilt" = true) (k17 : PySem.W.keepIn K (.ref f17) = true)
    {od18 an18 : Option Addr} {sl18 : Array (Option Value)} {oc18 kV18 dc18 pm18 cd18 ct18 : Value}
    (a18 : PySem.W.nsIn K mainGlobals "_law_number" = some (some (.ref f18))) (l18 : K.lookup f18 = some ⟨oc18, od18, .func (PySem.W.fnOf "_law_number" "_law_number" (defArgs s__law_number) (defBody s__law_number) (defScope s__law_number) .none kV18 dc18 pm18 an18 cd18 ct18), sl18⟩) (c18 : PySem.W.codeIn K cd18 "_law_number" = true) (k18 : PySem.W.keepIn K (.ref f18) = true)
    {od19 an19 : Option Addr} {sl19 : Array (Option Value)} {oc19 kV19 dc19 pm19 cd19 ct19 : Value}
    (a19 : PySem.W.nsIn K mainGlobals "_law_joined" = some (some (.ref f19))) (l19 : K.lookup f19 = some ⟨oc19, od19, .func (PySem.W.fnOf "_law_joined" "_law_joined" (defArgs s__law_joined) (defBody s__law_joined) (defScope s__law_joined) .none kV19 dc19 pm19 an19 cd19 ct19), sl19⟩) (c19 : PySem.W.codeIn K cd19 "_law_joined" = true) (k19 : PySem.W.keepIn K (.ref f19) = true)
    {od20 an20 : Option Addr} {sl20 : Array (Option Value)} {oc20 kV20 dc20 pm20 cd20 ct20 : Value}
    (a20 : PySem.W.nsIn K mainGlobals "_law_line" = some (some (.ref f20))) (l20 : K.lookup f20 = some ⟨oc20, od20, .func (PySem.W.fnOf "_law_line" "_law_line" (defArgs s__law_line) (defBody s__law_line) (defScope s__law_line) .none kV20 dc20 pm20 an20 cd20 ct20), sl20⟩) (c20 : PySem.W.codeIn K cd20 "_law_line" = true) (k20 : PySem.W.keepIn K (.ref f20) = true)
    {od21 an21 : Option Addr} {sl21 : Array (Option Value)} {oc21 kV21 dc21 pm21 cd21 ct21 : Value}
    (a21 : PySem.W.nsIn K mainGlobals "_law_numbers" = some (some (.ref f21))) (l21 : K.lookup f21 = some ⟨oc21, od21, .func (PySem.W.fnOf "_law_numbers" "_law_numbers" (defArgs s__law_numbers) (defBody s__law_numbers) (defScope s__law_numbers) .none kV21 dc21 pm21 an21 cd21 ct21), sl21⟩) (c21 : PySem.W.codeIn K cd21 "_law_numbers" = true) (k21 : PySem.W.keepIn K (.ref f21) = true)
    {od22 an22 : Option Addr} {sl22 : Array (Option Value)} {oc22 kV22 dc22 pm22 cd22 ct22 : Value}
    (a22 : PySem.W.nsIn K mainGlobals "_law_stream" = some (some (.ref f22))) (l22 : K.lookup f22 = some ⟨oc22, od22, .func (PySem.W.fnOf "_law_stream" "_law_stream" (defArgs s__law_stream) (defBody s__law_stream) (defScope s__law_stream) .none kV22 dc22 pm22 an22 cd22 ct22), sl22⟩) (c22 : PySem.W.codeIn K cd22 "_law_stream" = true) (k22 : PySem.W.keepIn K (.ref f22) = true)
    {od23 an23 : Option Addr} {sl23 : Array (Option Value)} {oc23 kV23 dc23 pm23 cd23 ct23 : Value}
    (a23 : PySem.W.nsIn K mainGlobals "_law_due" = some (some (.ref f23))) (l23 : K.lookup f23 = some ⟨oc23, od23, .func (PySem.W.fnOf "_law_due" "_law_due" (defArgs s__law_due) (defBody s__law_due) (defScope s__law_due) .none kV23 dc23 pm23 an23 cd23 ct23), sl23⟩) (c23 : PySem.W.codeIn K cd23 "_law_due" = true) (k23 : PySem.W.keepIn K (.ref f23) = true)
    {od24 an24 : Option Addr} {sl24 : Array (Option Value)} {oc24 kV24 dc24 pm24 cd24 ct24 : Value}
    (a24 : PySem.W.nsIn K mainGlobals "law" = some (some (.ref f24))) (l24 : K.lookup f24 = some ⟨oc24, od24, .func (PySem.W.fnOf "law" "law" (defArgs s_law) (defBody s_law) (defScope s_law) .none kV24 dc24 pm24 an24 cd24 ct24), sl24⟩) (c24 : PySem.W.codeIn K cd24 "law" = true) (k24 : PySem.W.keepIn K (.ref f24) = true)
    (n_int : PySem.W.nsIn K mainGlobals "int" = some none)
    (n_isinstance : PySem.W.nsIn K mainGlobals "isinstance" = some none)
    (n_len : PySem.W.nsIn K mainGlobals "len" = some none)
    (n_list : PySem.W.nsIn K mainGlobals "list" = some none)
    (n_min : PySem.W.nsIn K mainGlobals "min" = some none)
    (n_range : PySem.W.nsIn K mainGlobals "range" = some none)
    (n_set : PySem.W.nsIn K mainGlobals "set" = some none)
    (n_str : PySem.W.nsIn K mainGlobals "str" = some none)
    {u_MOST_NODES : Tok} (g_MOST_NODES : PySem.W.nsIn K mainGlobals "MOST_NODES" = some (some (.int 12 u_MOST_NODES))) :
    ∃ fd : FuncData, (∀ (s : Shared) (v : Value), BindsTo s fd ⟨[v], []⟩ [("_law_script", v)]) ∧ ∀ base : Heap, K.In base → base.Ns mainGlobals mg → FnOk l.prog w K mg base CX0 9 fa fd ["_law_script"] (spLaw K) := by
  have e := hfa.symm.trans (PySem.W.mg_of X G a24)
  cases e
  let t : Tx l.prog K mg := {
    C_InvalidText := C_InvalidText
    C_MetronetError := C_MetronetError
    f_xi := f_xi
    d_xi := _
    f_xm := f_xm
    d_xm := _
    xk := ⟨⟨⟨_, _, _, _, _, _, _, _, _, _, _, _, _, _, _, xlk, xrf⟩, xsa, xex, xty, xkp⟩, xin, xsu, xmr, xsv, ⟨_, xcD⟩, ⟨_, xcC⟩, xop, xnp, xnn⟩
    SF := supf_mk li ci_ lci v2i hfi lcci
    SF2 := supf_mk lm cm_ lcm v2m hfm lccm
    xi := xii
    xt := xt
    xt2 := xt2
    xb := Binds.all (fun us hl => match us, hl with | [_, _], _ => rfl)
    xb2 := fun s' a b c X => BindsTo.of_defaults (hd := rfl) (ho := X _ _ ldm) (hs := rfl) (h₁ := by rfl) (h₂ := by rfl)
    xm := PySem.W.mg_of X G zX
    xmM := PySem.W.mg_of X G zM
    xsup := xss
    xmro := xmm
    xtop := xtop
    n_super := PySem.W.mg_none_of X G xns
    xisC := ⟨xhg, xhk, xex, xhd, xha, xhn, xht, xhm⟩
    xcl := by rw [xcC]; rfl
    xfC := ⟨xhg, xhk, xex, xhd⟩
    xexm := xem
    xkit := xkk
    C_Net := _
    cl_Net := ⟨pg_Net, hd_Net, po_Net, sa_Net⟩
    n_Net_kinds := nf_Net_kinds
    n_Net_lines := nf_Net_lines
    n_Net_processing := nf_Net_processing
    n_Net_error := nf_Net_error
    C_Stream := _
    cl_Stream := ⟨pg_Stream, hd_Stream, po_Stream, sa_Stream⟩
    n_Stream_period := nf_Stream_period
    n_Stream_length := nf_Stream_length
    n_Stream_deadline := nf_Stream_deadline
    n_Stream_path := nf_Stream_path
    is_Stream := is_mk ⟨pg_Stream, hd_Stream, po_Stream, sa_Stream⟩ qa_Stream qn_Stream qt_Stream qm_Stream qe_Stream qy_Stream ql_Stream qi_Stream
    eo_Stream := ⟨⟨⟨pg_Stream, hd_Stream, po_Stream, sa_Stream⟩, qa_Stream, qn_Stream, qt_Stream, qm_Stream, kit_me⟩, ql_Stream, qi_Stream⟩
    f_Stream___init__ := f0
    d_Stream___init__ := _
    F_Stream___init__ := fun_mk (st := s_Stream___init__) l0 c0 k0
    b_Stream___init__ := (fun_mk (st := s_Stream___init__) l0 c0 k0).binds (ps := ["self", "period", "length", "deadline", "path"]) (fun _ _ _ _ _ _ us hl => match us, hl with | [_, _, _, _, _], _ => rfl)
    mk_Stream := ⟨mk_Stream, a0, i0, kc_Stream⟩
    mC_Stream := PySem.W.mg_of X G zC_Stream
    f_Stream___eq__ := f1
    d_Stream___eq__ := _
    F_Stream___eq__ := fun_mk (st := s_Stream___eq__) l1 c1 k1
    b_Stream___eq__ := (fun_mk (st := s_Stream___eq__) l1 c1 k1).binds (ps := ["self", "other"]) (fun _ _ _ _ _ _ us hl => match us, hl with | [_, _], _ => rfl)
    mt_Stream___eq__ := ⟨a1, i1, k1⟩
    f_Net___init__ := f2
    d_Net___init__ := _
    F_Net___init__ := fun_mk (st := s_Net___init__) l2 c2 k2
    kb_Net___init__ := kb_mk (fun_mk (st := s_Net___init__) l2 c2 k2) fun _ _ _ _ _ _ us ws h1 h2 => match us, ws, h1, h2 with | [_, _, _], [_, _], _, _ => rfl
    mk_Net := ⟨mk_Net, a2, i2, kc_Net⟩
    mC_Net := PySem.W.mg_of X G zC_Net
    f__number := f3
    d__number := _
    F__number := fun_mk (st := s__number) l3 c3 k3
    b__number := (fun_mk (st := s__number) l3 c3 k3).binds (ps := ["word", "least", "most", "place"]) (fun _ _ _ _ _ _ us hl => match us, hl with | [_, _, _, _], _ => rfl)
    m__number := PySem.W.mg_of X G a3
    f__words := f4
    d__words := _
    F__words := fun_mk (st := s__words) l4 c4 k4
    b__words := (fun_mk (st := s__words) l4 c4 k4).binds (ps := ["row", "first", "many", "place"]) (fun _ _ _ _ _ _ us hl => match us, hl with | [_, _, _, _], _ => rfl)
    m__words := PySem.W.mg_of X G a4
    f_Net_delay := f5
    d_Net_delay := _
    F_Net_delay := fun_mk (st := s_Net_delay) l5 c5 k5
    b_Net_delay := (fun_mk (st := s_Net_delay) l5 c5 k5).binds (ps := ["self", "a", "b"]) (fun _ _ _ _ _ _ us hl => match us, hl with | [_, _, _], _ => rfl)
    mt_Net_delay := ⟨a5, i5, k5⟩
    f__read_line := f6
    d__read_line := _
    F__read_line := fun_mk (st := s__read_line) l6 c6 k6
    b__read_line := (fun_mk (st := s__read_line) l6 c6 k6).binds (ps := ["row", "net", "place"]) (fun _ _ _ _ _ _ us hl => match us, hl with | [_, _, _], _ => rfl)
    m__read_line := PySem.W.mg_of X G a6
    f_ports_of := f7
    d_ports_of := _
    F_ports_of := fun_mk (st := s_ports_of) l7 c7 k7
    b_ports_of := (fun_mk (st := s_ports_of) l7 c7 k7).binds (ps := ["path"]) (fun _ _ _ _ _ _ us hl => match us, hl with | [_], _ => rfl)
    m_ports_of := PySem.W.mg_of X G a7
    f_is_path := f8
    d_is_path := _
    F_is_path := fun_mk (st := s_is_path) l8 c8 k8
    b_is_path := (fun_mk (st := s_is_path) l8 c8 k8).binds (ps := ["net", "nodes"]) (fun _ _ _ _ _ _ us hl => match us, hl with | [_, _], _ => rfl)
    m_is_path := PySem.W.mg_of X G a8
    f__read_stream := f9
    d__read_stream := _
    F__read_stream := fun_mk (st := s__read_stream) l9 c9 k9
    b__read_stream := (fun_mk (st := s__read_stream) l9 c9 k9).binds (ps := ["row", "net", "place"]) (fun _ _ _ _ _ _ us hl => match us, hl with | [_, _, _], _ => rfl)
    m__read_stream := PySem.W.mg_of X G a9
    f__read_kinds := f10
    d__read_kinds := _
    F__read_kinds := fun_mk (st := s__read_kinds) l10 c10 k10
    b__read_kinds := (fun_mk (st := s__read_kinds) l10 c10 k10).binds (ps := ["rows"]) (fun _ _ _ _ _ _ us hl => match us, hl with | [_], _ => rfl)
    m__read_kinds := PySem.W.mg_of X G a10
    f__read_rows := f11
    d__read_rows := _
    F__read_rows := fun_mk (st := s__read_rows) l11 c11 k11
    b__read_rows := (fun_mk (st := s__read_rows) l11 c11 k11).binds (ps := ["rows"]) (fun _ _ _ _ _ _ us hl => match us, hl with | [_], _ => rfl)
    m__read_rows := PySem.W.mg_of X G a11
    f_read_text := f12
    d_read_text := _
    F_read_text := fun_mk (st := s_read_text) l12 c12 k12
    b_read_text := (fun_mk (st := s_read_text) l12 c12 k12).binds (ps := ["text"]) (fun _ _ _ _ _ _ us hl => match us, hl with | [_], _ => rfl)
    m_read_text := PySem.W.mg_of X G a12
    f__law_draw := f13
    d__law_draw := _
    F__law_draw := fun_mk (st := s__law_draw) l13 c13 k13
    b__law_draw := (fun_mk (st := s__law_draw) l13 c13 k13).binds (ps := ["_law_cell_here", "_law_many", "_law_bound"]) (fun _ _ _ _ _ _ us hl => match us, hl with | [_, _, _], _ => rfl)
    m__law_draw := PySem.W.mg_of X G a13
    f__law_cell := f14
    d__law_cell := _
    F__law_cell := fun_mk (st := s__law_cell) l14 c14 k14
    b__law_cell := (fun_mk (st := s__law_cell) l14 c14 k14).binds (ps := ["_law_script", "_law_k"]) (fun _ _ _ _ _ _ us hl => match us, hl with | [_, _], _ => rfl)
    m__law_cell := PySem.W.mg_of X G a14
    f__law_rows := f15
    d__law_rows := _
    F__law_rows := fun_mk (st := s__law_rows) l15 c15 k15
    b__law_rows := (fun_mk (st := s__law_rows) l15 c15 k15).binds (ps := ["_law_numbers_here"]) (fun _ _ _ _ _ _ us hl => match us, hl with | [_], _ => rfl)
    m__law_rows := PySem.W.mg_of X G a15
    f__law_word := f16
    d__law_word := _
    F__law_word := fun_mk (st := s__law_word) l16 c16 k16
    b__law_word := (fun_mk (st := s__law_word) l16 c16 k16).binds (ps := ["_law_numbers_here"]) (fun _ _ _ _ _ _ us hl => match us, hl with | [_], _ => rfl)
    m__law_word := PySem.W.mg_of X G a16
    f__law_spoilt := f17
    d__law_spoilt := _
    F__law_spoilt := fun_mk (st := s__law_spoilt) l17 c17 k17
    b__law_spoilt := (fun_mk (st := s__law_spoilt) l17 c17 k17).binds (ps := ["_law_rows_here", "_law_numbers_here"]) (fun _ _ _ _ _ _ us hl => match us, hl with | [_, _], _ => rfl)
    m__law_spoilt := PySem.W.mg_of X G a17
    f__law_number := f18
    d__law_number := _
    F__law_number := fun_mk (st := s__law_number) l18 c18 k18
    b__law_number := (fun_mk (st := s__law_number) l18 c18 k18).binds (ps := ["_law_word_here", "_law_low", "_law_high"]) (fun _ _ _ _ _ _ us hl => match us, hl with | [_, _, _], _ => rfl)
    m__law_number := PySem.W.mg_of X G a18
    f__law_joined := f19
    d__law_joined := _
    F__law_joined := fun_mk (st := s__law_joined) l19 c19 k19
    b__law_joined := (fun_mk (st := s__law_joined) l19 c19 k19).binds (ps := ["_law_lines", "_law_a", "_law_b"]) (fun _ _ _ _ _ _ us hl => match us, hl with | [_, _, _], _ => rfl)
    m__law_joined := PySem.W.mg_of X G a19
    f__law_line := f20
    d__law_line := _
    F__law_line := fun_mk (st := s__law_line) l20 c20 k20
    b__law_line := (fun_mk (st := s__law_line) l20 c20 k20).binds (ps := ["_law_row", "_law_kinds", "_law_lines"]) (fun _ _ _ _ _ _ us hl => match us, hl with | [_, _, _], _ => rfl)
    m__law_line := PySem.W.mg_of X G a20
    f__law_numbers := f21
    d__law_numbers := _
    F__law_numbers := fun_mk (st := s__law_numbers) l21 c21 k21
    b__law_numbers := (fun_mk (st := s__law_numbers) l21 c21 k21).binds (ps := ["_law_text", "_law_low", "_law_high"]) (fun _ _ _ _ _ _ us hl => match us, hl with | [_, _, _], _ => rfl)
    m__law_numbers := PySem.W.mg_of X G a21
    f__law_stream := f22
    d__law_stream := _
    F__law_stream := fun_mk (st := s__law_stream) l22 c22 k22
    b__law_stream := (fun_mk (st := s__law_stream) l22 c22 k22).binds (ps := ["_law_row", "_law_kinds", "_law_lines"]) (fun _ _ _ _ _ _ us hl => match us, hl with | [_, _, _], _ => rfl)
    m__law_stream := PySem.W.mg_of X G a22
    f__law_due := f23
    d__law_due := _
    F__law_due := fun_mk (st := s__law_due) l23 c23 k23
    b__law_due := (fun_mk (st := s__law_due) l23 c23 k23).binds (ps := ["_law_rows_here"]) (fun _ _ _ _ _ _ us hl => match us, hl with | [_], _ => rfl)
    m__law_due := PySem.W.mg_of X G a23
    f_law := _
    d_law := _
    F_law := fun_mk (st := s_law) l24 c24 k24
    b_law := (fun_mk (st := s_law) l24 c24 k24).binds (ps := ["_law_script"]) (fun _ _ _ _ _ _ us hl => match us, hl with | [_], _ => rfl)
    m_law := PySem.W.mg_of X G a24
    n_int := PySem.W.mg_none_of X G n_int
    n_isinstance := PySem.W.mg_none_of X G n_isinstance
    n_len := PySem.W.mg_none_of X G n_len
    n_list := PySem.W.mg_none_of X G n_list
    n_min := PySem.W.mg_none_of X G n_min
    n_range := PySem.W.mg_none_of X G n_range
    n_set := PySem.W.mg_none_of X G n_set
    n_str := PySem.W.mg_none_of X G n_str
    g_MOST_NODES := ⟨_, PySem.W.mg_of X G g_MOST_NODES⟩ }
  exact ⟨t.d_law, fun s v => .of_eq rfl, fun base _ _ => ok_end t⟩
end Vl
open PySem PySem.W PyProof.Rows
set_option maxHeartbeats 0 in
theorem PySem.Challenge.cw_metronet_k21_texts_that_are_refused_holds : PySem.Challenge.rw_metronet_k21_texts_that_are_refused.Holds := by
  w_on; o_law; k_head; (case hw => w_witness2)
  k_fill
  refine L2.walk_of (l := PySem.Challenge.rw_metronet_k21_texts_that_are_refused) (n := 63) (k := 9) (x := "_law_script") (CX := fun _ => L2.CX0) (sp := fun w => Vl.spLaw _) rfl (by decide) rfl ⟨rfl, by decide, by decide⟩ (fun w h Y => PySem.W.kIn_of Y) ?F (fun _ _ a ns hl _ hS => ⟨a, ns, rfl, hS, hl, fun _ => rfl⟩) (fun _ _ _ _ _ h => h)
  case F =>
    intro w mg fa h KX G hmg
    refine' Vl.all_mk KX G hmg ?zX ?zM ?xlk ?xrf ?xsa ?xex ?xty ?xkp ?xin ?xsu ?xmr ?xsv ?xcD ?xcC ?xop ?xnp ?xnn ?xii ?xss ?xmm ?xt ?xt2 ?li ?ci_ ?lci ?v2i ?hfi ?lcci ?lm ?cm_ ?lcm ?v2m ?hfm ?lccm ?ldm ?xtop ?xns ?xhg ?xhk ?xhd ?xha ?xhn ?xht ?xhm ?xem ?xkk ?zC_Net ?pg_Net ?hd_Net ?po_Net ?sa_Net ?mk_Net ?kc_Net ?nf_Net_kinds ?nf_Net_lines ?nf_Net_processing ?nf_Net_error ?zC_Stream ?pg_Stream ?hd_Stream ?po_Stream ?sa_Stream ?mk_Stream ?kc_Stream ?qa_Stream ?qn_Stream ?qt_Stream ?qm_Stream ?qe_Stream ?qy_Stream ?ql_Stream ?qi_Stream ?nf_Stream_period ?nf_Stream_length ?nf_Stream_deadline ?nf_Stream_path ?a0 ?i0 ?l0 ?c0 ?k0 ?a1 ?i1 ?l1 ?c1 ?k1 ?a2 ?i2 ?l2 ?c2 ?k2 ?a3 ?l3 ?c3 ?k3 ?a4 ?l4 ?c4 ?k4 ?a5 ?i5 ?l5 ?c5 ?k5 ?a6 ?l6 ?c6 ?k6 ?a7 ?l7 ?c7 ?k7 ?a8 ?l8 ?c8 ?k8 ?a9 ?l9 ?c9 ?k9 ?a10 ?l10 ?c10 ?k10 ?a11 ?l11 ?c11 ?k11 ?a12 ?l12 ?c12 ?k12 ?a13 ?l13 ?c13 ?k13 ?a14 ?l14 ?c14 ?k14 ?a15 ?l15 ?c15 ?k15 ?a16 ?l16 ?c16 ?k16 ?a17 ?l17 ?c17 ?k17 ?a18 ?l18 ?c18 ?k18 ?a19 ?l19 ?c19 ?k19 ?a20 ?l20 ?c20 ?k20 ?a21 ?l21 ?c21 ?k21 ?a22 ?l22 ?c22 ?k22 ?a23 ?l23 ?c23 ?k23 ?a24 ?l24 ?c24 ?k24 ?n_int ?n_isinstance ?n_len ?n_list ?n_min ?n_range ?n_set ?n_str ?g_MOST_NODES
    (case zX => k_is)
    (case zM => k_is)
    (case xlk => k_is)
    (case xrf => rfl)
    (case xsa => k_is)
    (case xex => k_is)
    (case xty => k_is)
    (case xkp => k_is)
    (case xin => rfl)
    (case xsu => ks_is)
    (case xmr => k_is)
    (case xsv => k_is)
    (case xcD => k_is)
    (case xcC => k_is)
    (case xop => k_is)
    (case xnp => k_is)
    (case xnn => k_is)
    (case xii => k_is)
    (case xss => ks_is)
    (case xmm => k_is)
    (case xt => k_is)
    (case xt2 => k_is)
    (case li => k_is)
    (case ci_ => k_is)
    (case lci => k_is)
    (case v2i => rfl)
    (case hfi => rfl)
    (case lcci => k_is)
    (case lm => k_is)
    (case cm_ => k_is)
    (case lcm => k_is)
    (case v2m => rfl)
    (case hfm => rfl)
    (case lccm => k_is)
    (case ldm => k_is)
    (case xtop => rfl)
    (case xns => k_is)
    (case xhg => k_is)
    (case xhk => k_is)
    (case xhd => k_is)
    (case xha => k_is)
    (case xhn => k_is)
    (case xht => k_is)
    (case xhm => k_is)
    (case xem => kts_exm)
    (case xkk => kit_is)
    (case zC_Net => k_is)
    (case pg_Net => k_is)
    (case hd_Net => k_is)
    (case po_Net => k_is)
    (case sa_Net => k_is)
    (case mk_Net => k_is)
    (case kc_Net => k_is)
    (case nf_Net_kinds => k_is)
    (case nf_Net_lines => k_is)
    (case nf_Net_processing => k_is)
    (case nf_Net_error => k_is)
    (case zC_Stream => k_is)
    (case pg_Stream => k_is)
    (case hd_Stream => k_is)
    (case po_Stream => k_is)
    (case sa_Stream => k_is)
    (case mk_Stream => k_is)
    (case kc_Stream => k_is)
    (case qa_Stream => k_is)
    (case qn_Stream => k_is)
    (case qt_Stream => k_is)
    (case qm_Stream => k_is)
    (case qe_Stream => k_is)
    (case qy_Stream => k_is)
    (case ql_Stream => k_is)
    (case qi_Stream => k_is)
    (case nf_Stream_period => k_is)
    (case nf_Stream_length => k_is)
    (case nf_Stream_deadline => k_is)
    (case nf_Stream_path => k_is)
    (case a0 => k_is)
    (case i0 => k_is)
    (case l0 => k_is)
    (case c0 => k_is)
    (case k0 => k_is)
    (case a1 => k_is)
    (case i1 => k_is)
    (case l1 => k_is)
    (case c1 => k_is)
    (case k1 => k_is)
    (case a2 => k_is)
    (case i2 => k_is)
    (case l2 => k_is)
    (case c2 => k_is)
    (case k2 => k_is)
    (case a3 => k_is)
    (case l3 => k_is)
    (case c3 => k_is)
    (case k3 => k_is)
    (case a4 => k_is)
    (case l4 => k_is)
    (case c4 => k_is)
    (case k4 => k_is)
    (case a5 => k_is)
    (case i5 => k_is)
    (case l5 => k_is)
    (case c5 => k_is)
    (case k5 => k_is)
    (case a6 => k_is)
    (case l6 => k_is)
    (case c6 => k_is)
    (case k6 => k_is)
    (case a7 => k_is)
    (case l7 => k_is)
    (case c7 => k_is)
    (case k7 => k_is)
    (case a8 => k_is)
    (case l8 => k_is)
    (case c8 => k_is)
    (case k8 => k_is)
    (case a9 => k_is)
    (case l9 => k_is)
    (case c9 => k_is)
    (case k9 => k_is)
    (case a10 => k_is)
    (case l10 => k_is)
    (case c10 => k_is)
    (case k10 => k_is)
    (case a11 => k_is)
    (case l11 => k_is)
    (case c11 => k_is)
    (case k11 => k_is)
    (case a12 => k_is)
    (case l12 => k_is)
    (case c12 => k_is)
    (case k12 => k_is)
    (case a13 => k_is)
    (case l13 => k_is)
    (case c13 => k_is)
    (case k13 => k_is)
    (case a14 => k_is)
    (case l14 => k_is)
    (case c14 => k_is)
    (case k14 => k_is)
    (case a15 => k_is)
    (case l15 => k_is)
    (case c15 => k_is)
    (case k15 => k_is)
    (case a16 => k_is)
    (case l16 => k_is)
    (case c16 => k_is)
    (case k16 => k_is)
    (case a17 => k_is)
    (case l17 => k_is)
    (case c17 => k_is)
    (case k17 => k_is)
    (case a18 => k_is)
    (case l18 => k_is)
    (case c18 => k_is)
    (case k18 => k_is)
    (case a19 => k_is)
    (case l19 => k_is)
    (case c19 => k_is)
    (case k19 => k_is)
    (case a20 => k_is)
    (case l20 => k_is)
    (case c20 => k_is)
    (case k20 => k_is)
    (case a21 => k_is)
    (case l21 => k_is)
    (case c21 => k_is)
    (case k21 => k_is)
    (case a22 => k_is)
    (case l22 => k_is)
    (case c22 => k_is)
    (case k22 => k_is)
    (case a23 => k_is)
    (case l23 => k_is)
    (case c23 => k_is)
    (case k23 => k_is)
    (case a24 => k_is)
    (case l24 => k_is)
    (case c24 => k_is)
    (case k24 => k_is)
    (case n_int => k_is)
    (case n_isinstance => k_is)
    (case n_len => k_is)
    (case n_list => k_is)
    (case n_min => k_is)
    (case n_range => k_is)
    (case n_set => k_is)
    (case n_str => k_is)
    (case g_MOST_NODES => k_is)
