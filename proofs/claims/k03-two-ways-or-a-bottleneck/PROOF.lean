import PyProof.Rows.All
import Wide.All
import OpenK.AllK
import Wide.FinOn
import HandS.Dict
import HandS.DictTup
import HandS.Conv
import HandS.List
import KE.KDictKeyed
import HandS.ForMost
import HandS.Walk
import HandS.Gcd
import HandS.Wide
import HandS.Deep
import HandS.IsInst
import HandS.Comp
import KE.KMathG
import HandS.SortKw
import KE.DatumOrd
import HandS.MakeKwOnly
import HandS.More
import HandS.OwnEq
import HandS.Codes
import HandS.TupLen
import HandS.WordsDict
import HandS.SetFor
import HandS.NamedTupSort
import HandS.TupAny
import HandS.Zip
import KE.SortData
import HandS.FStr
import HandS.Text
import KE.KIntText
import PyProof.Rows.TupDisplay
import PySem.Challenge.RW_metronet_k03_whole_two_ways_or_a_bottlen
set_option Elab.async false
set_option linter.all false
set_option maxRecDepth 100000
set_option maxHeartbeats 4000000
/-! Dicts whose keys are pairs of pairs of ints, with True behind each: rules over the abstract heap. -/
namespace Vl
open PySem PySem.Spec PyProof.Rows L2
abbrev Q4 := (Int × Int) × (Int × Int)
def nkN (q : Q4) : NestedKey := .tup [.tup [.num q.1.1, .num q.1.2], .tup [.num q.2.1, .num q.2.2]]
theorem nkN_inj {a b : Q4} (h : nkN a = nkN b) : a = b := by
  obtain ⟨⟨a1, a2⟩, ⟨a3, a4⟩⟩ := a
  obtain ⟨⟨b1, b2⟩, ⟨b3, b4⟩⟩ := b
  simp only [nkN, NestedKey.tup.injEq, List.cons.injEq, NestedKey.num.injEq, and_true] at h
  obtain ⟨⟨h1, h2⟩, h3, h4⟩ := h
  rw [h1, h2, h3, h4]
/-- the entries: keys, where their tuples stand -/
def xsH (xs : List (Q4 × Addr)) : List (NestedKey × Addr × Value) := xs.map fun x => (nkN x.1, x.2, .bool true)
def DN0 (P : Program) (w : World) (a : Addr) (xs : List (Q4 × Addr)) (h : Heap) : Prop :=
  xs.length ≤ sizeLine ∧ (a == sysModules) = false ∧ (∃ o es ep, h.get? a = some o ∧ o.ExactDict ∧ o.data = .dict es ep ∧ es.toList = (xsH xs).map (entryOfKey (nestedKind P w))) ∧ (xs.map (·.1)).Nodup
def DNO (P : Program) (w : World) (a : Addr) (xs : List (Q4 × Addr)) : HO := .ext (DN0 P w a xs)
/-- the tuple of tuples at b is the key q -/
def KeyAt (H : Hp) (q : Q4) (b : Addr) : Prop := ∃ b1 b2, H b = some (.tup [.ref b1, .ref b2]) ∧ H b1 = some (.tup [.int q.1.1, .int q.1.2]) ∧ H b2 = some (.tup [.int q.2.1, .int q.2.2])
def NDict (P : Program) (w : World) (H : Hp) (a : Addr) (xs : List (Q4 × Addr)) : Prop := H a = some (DNO P w a xs) ∧ ∀ x ∈ xs, KeyAt H x.1 x.2
section
variable {P : Program} {w : World} {H : Hp} {h : Heap} {a b : Addr} {xs : List (Q4 × Addr)} {q : Q4}
theorem dno_ok (x : DN0 P w a xs h) : ObjOk P w H h a (DNO P w a xs) := by
  obtain ⟨z, y, ⟨o, es, ep, e, r⟩, nd⟩ := x
  exact ⟨⟨z, y, ⟨o, es, ep, e, r⟩, nd⟩, ⟨o, e⟩, fun h1 h2 ⟨z, y, ⟨o, es, ep, e, r⟩, nd⟩ k => ⟨z, y, ⟨o, es, ep, k _ e, r⟩, nd⟩⟩
theorem pair_is (ok : HOk P w H h) {i j : Int} (e : H b = some (.tup [.int i, .int j])) : NestedIs h (.tup [.num i, .num j]) (.ref b) := by
  obtain ⟨_, its, r, o, h1, h2, n, h3⟩ := (show ObjOk P w H h b (.tup [.int i, .int j]) from ok b _ e)
  cases r with
  | cons r1 r =>
    cases r with
    | cons r2 r =>
      cases r
      obtain ⟨t1, rfl⟩ := r1
      obtain ⟨t2, rfl⟩ := r2
      exact .tup h1 h2 h3 (.cons (.int _ _) (.cons (.int _ _) .nil))
theorem key_is (ok : HOk P w H h) (e : KeyAt H q b) : (nestedKind P w).is h (nkN q) b := by
  obtain ⟨b1, b2, e0, e1, e2⟩ := e
  obtain ⟨_, its, r, o, h1, h2, n, h3⟩ := (show ObjOk P w H h b (.tup [.ref b1, .ref b2]) from ok b _ e0)
  refine ⟨?_, by show NestedKey.depth (nkN q) ≤ 8; simp [nkN, NestedKey.depth, NestedKey.depthAll]⟩
  cases r with
  | cons r1 r =>
    cases r with
    | cons r2 r =>
      cases r
      cases r1
      cases r2
      exact .tup h1 h2 h3 (.cons (pair_is ok e1) (.cons (pair_is ok e2) .nil))
theorem xsH_nodup (nd : (xs.map (·.1)).Nodup) : ((xsH xs).map (·.1)).Nodup := by
  unfold xsH
  rw [List.map_map]
  have : (xs.map ((fun x : NestedKey × Addr × Value => x.1) ∘ fun x : Q4 × Addr => (nkN x.1, x.2, Value.bool true))) = (xs.map (·.1)).map nkN := by rw [List.map_map]; rfl
  rw [this]
  exact List.Pairwise.map nkN (fun a b hab z => hab (nkN_inj z)) nd
theorem dn_of (ok : HOk P w H h) (d : NDict P w H a xs) : xs.length ≤ sizeLine ∧ (a == sysModules) = false ∧ h.DictOfH (nestedKind P w) a (xsH xs) ∧ (xs.map (·.1)).Nodup := by
  obtain ⟨e, k⟩ := d
  obtain ⟨⟨z, y, ⟨o, es, ep, h1, h2, h3, h4⟩, nd⟩, _⟩ := (show ObjOk P w H h a (DNO P w a xs) from ok a _ e)
  refine ⟨z, y, ⟨o, es, ep, h1, h2, h3, h4, fun x hx => ?_, xsH_nodup nd⟩, nd⟩
  obtain ⟨y, hy, rfl⟩ := List.mem_map.mp hx
  exact key_is ok (k y hy)
theorem atKey_xsH (xs : List (Q4 × Addr)) (q : Q4) : (atKey (xsH xs) (nkN q)).isSome = decide (q ∈ xs.map (·.1)) := by
  induction xs with
  | nil => rfl
  | cons x xs ih =>
    show (((_ :: xsH xs).find? fun x => decide (x.1 = nkN q)).map (·.2)).isSome = _
    rw [List.find?_cons]
    by_cases e : x.1 = q
    · rw [decide_eq_true (show nkN x.1 = nkN q by rw [e])]
      rw [decide_eq_true (by rw [List.map_cons, e]; exact List.mem_cons_self)]
      rfl
    · rw [decide_eq_false (show ¬ nkN x.1 = nkN q from fun z => e (nkN_inj z))]
      have : decide (q ∈ (x :: xs).map (·.1)) = decide (q ∈ xs.map (·.1)) := decide_eq_decide.mpr (by
        rw [List.map_cons, List.mem_cons]
        exact ⟨fun z => z.elim (fun z => absurd z.symm e) id, .inr⟩)
      rw [this, ← ih]
      rfl
theorem dn_new (x : h.DictOfH (nestedKind P w) a (xsH xs)) (hl : xs.length ≤ sizeLine) (hd : (a == sysModules) = false) (nd : (xs.map (·.1)).Nodup) : DN0 P w a xs h := by
  obtain ⟨o, es, ep, h1, h2, h3, h4, _, _⟩ := x
  exact ⟨hl, hd, ⟨o, es, ep, h1, h2, h3, h4⟩, nd⟩
end
section
variable {X : Cx}
theorem nk_room (hu : X.A.units + 64 < cLine) : (nestedKind X.prog X.w).room X.A.in1 := by
  show X.A.in1.units + 8 < cLine
  rw [Around.in1_units]
  omega
/-- q in d -/
def rInN (P : Program) (w : World) (neg : Bool) : R2 := fun x y H Q => ∃ b a q xs, x = .ref b ∧ y = .ref a ∧ NDict P w H a xs ∧ KeyAt H q b ∧ Q (.bl (if neg then !decide (q ∈ xs.map (·.1)) else decide (q ∈ xs.map (·.1)))) H
theorem op_inN (hu : X.A.units + 64 < cLine) : OpR X (compareOp .In) (rInN X.prog X.w false) := by
  intro pins s σ H x y v u Q I rx ry h
  obtain ⟨b, a, q, xs, rfl, rfl, d, k, q'⟩ := h
  cases rx
  cases ry
  obtain ⟨z, hd, dd, nd⟩ := dn_of I.hok d
  refine wpAny_in_heap (nk_room hu) (key_is I.hok k) hd dd ?_
  rw [atKey_xsH]
  have q' : Q (.bl (decide (q ∈ xs.map (·.1)))) H := q'
  have rv : RelV (.bl (decide (q ∈ xs.map (·.1)))) (.bool (decide (q ∈ xs.map (·.1)))) := rfl
  exact ⟨_, H, I.tok _, rv, q'⟩
theorem op_notInN (hu : X.A.units + 64 < cLine) : OpR X (compareOp .NotIn) (rInN X.prog X.w true) := by
  intro pins s σ H x y v u Q I rx ry h
  obtain ⟨b, a, q, xs, rfl, rfl, d, k, q'⟩ := h
  cases rx
  cases ry
  obtain ⟨z, hd, dd, nd⟩ := dn_of I.hok d
  refine wpAny_notIn_heap (nk_room hu) (key_is I.hok k) hd dd ?_
  rw [atKey_xsH]
  have q' : Q (.bl (!decide (q ∈ xs.map (·.1)))) H := q'
  have rv : RelV (.bl (!decide (q ∈ xs.map (·.1)))) (.bool (!decide (q ∈ xs.map (·.1)))) := rfl
  exact ⟨_, H, I.tok _, rv, q'⟩
/-- d[q] = True, q new -/
def sNPut (P : Program) (w : World) (td ty tv : TE) : TS := fun D σ H => tv σ H fun v H1 => td σ H1 fun x H2 => ty σ H2 fun y H3 => ∃ a b q xs, v = .bl true ∧ x = .ref a ∧ y = .ref b ∧ NDict P w H3 a xs ∧ KeyAt H3 q b ∧ q ∉ xs.map (·.1) ∧ xs.length < 1000000 ∧ D.nx σ (upd H3 a (DNO P w a (xs ++ [(q, b)])))
variable {o i value : Expr} {pos pos' tpos : Pos} {td ty tv : TE}
theorem ps_nput (hu : X.A.units + 64 < cLine) (ho : PE X o td) (hi : PE X i ty) (hv : PE X value tv) (hs : swapsWith value (some (.Subscript o i pos')) pos.line X.env = pure false) :
    PS X (.Assign [.Subscript o i pos'] value pos) (sNPut X.prog X.w td ty tv) := by
  refine ⟨fun pins s σ H D I h => ?_⟩
  refine wpAny_Assign_Subscript (thn (hv.run pins s σ H _ I h) fun r s1 ⟨v, H1, I1, rv, q1⟩ => thn (ho.run pins s1 σ H1 _ I1 q1) fun u s2 ⟨x, H2, I2, rx, q2⟩ => thn (hi.run pins s2 σ H2 _ I2 q2) fun iv s3 ⟨y, H3, I3, ry, a, b, q, xs, ev, ex, ey, d, k, hn, hl, q3⟩ => ?_) hs
  subst ev ex ey
  cases rx
  cases ry
  cases rv
  obtain ⟨z, hd, dd, nd⟩ := dn_of I3.hok d
  have hat : atKey (xsH xs) (nkN q) = none := by
    have := atKey_xsH xs q
    rw [decide_eq_false hn] at this
    exact Option.isSome_eq_false_iff.mp this |> Option.isNone_iff_eq_none.mp
  refine wpAny_setItem_heap (hsz := by unfold xsH; rw [List.length_map]; exact z) (nk_room hu) (key_is I3.hok k) dd fun h' dd' sb => ?_
  rw [storedH_new hat] at dd'
  have e2 : xsH xs ++ [(nkN q, b, .bool true)] = xsH (xs ++ [(q, b)]) := by unfold xsH; rw [List.map_append]; rfl
  rw [e2] at dd'
  have hl2 : (xs ++ [(q, b)]).length ≤ sizeLine := by
    rw [List.length_append, List.length_singleton]
    exact Nat.le_trans (show xs.length + 1 ≤ 1000000 by omega) (by decide)
  have nd2 : ((xs ++ [(q, b)]).map (·.1)).Nodup := by
    rw [List.map_append, List.nodup_append]
    refine ⟨nd, List.nodup_cons.mpr ⟨List.not_mem_nil, List.nodup_nil⟩, fun x hx y hy e => ?_⟩
    rw [List.map_singleton, List.mem_singleton] at hy
    exact hn (by rw [e, hy] at hx; exact hx)
  have he : ∃ q, h'.get? a = some q := let ⟨q, _, _, hq, _⟩ := dd'; ⟨q, hq⟩
  exact ⟨σ, _, d_write I3 (by rw [d.1]; exact True.intro) sb he (dno_ok (dn_new dd' hl2 hd nd2)), q3⟩
/-- del d[q] -/
def sNDel (P : Program) (w : World) (td ty : TE) : TS := fun D σ H => td σ H fun x H1 => ty σ H1 fun y H2 => ∃ a b q xs, x = .ref a ∧ y = .ref b ∧ NDict P w H2 a xs ∧ KeyAt H2 q b ∧ q ∈ xs.map (·.1) ∧ D.nx σ (upd H2 a (DNO P w a (xs.filter fun x => decide (x.1 ≠ q))))
theorem ps_ndel (hu : X.A.units + 64 < cLine) (ho : PE X o td) (hi : PE X i ty) : PS X (.Delete [.Subscript o i tpos] pos) (sNDel X.prog X.w td ty) := by
  refine ⟨fun pins s σ H D I h => ?_⟩
  refine wpAny_Delete (wpAny_deleteEach_cons (wpAny_delete_Subscript (thn (ho.run pins s σ H _ I h) fun u s1 ⟨x, H1, I1, rx, q1⟩ => thn (hi.run pins s1 σ H1 _ I1 q1) fun iv s2 ⟨y, H2, I2, ry, a, b, q, xs, ex, ey, d, k, hn, q2⟩ => ?_)))
  subst ex ey
  cases rx
  cases ry
  obtain ⟨z, hd, dd, nd⟩ := dn_of I2.hok d
  obtain ⟨p, hp⟩ : ∃ p, atKey (xsH xs) (nkN q) = some p := by
    have := atKey_xsH xs q
    rw [decide_eq_true hn] at this
    exact Option.isSome_iff_exists.mp this
  refine wpAny_delItem_heap (hsz := by unfold xsH; rw [List.length_map]; exact z) (nk_room hu) (key_is I2.hok k) hd dd hp fun h' dd' sb => ?_
  have e2 : withoutH (xsH xs) (nkN q) = xsH (xs.filter fun x => decide (x.1 ≠ q)) := by
    unfold withoutH xsH
    rw [List.filter_map]
    congr 1
    apply List.filter_congr
    intro x _
    show decide (nkN x.1 ≠ nkN q) = decide (x.1 ≠ q)
    by_cases e : x.1 = q
    · rw [decide_eq_false (by rw [e]; simp), decide_eq_false (by simp [e])]
    · rw [decide_eq_true e, decide_eq_true (show nkN x.1 ≠ nkN q from fun z => e (nkN_inj z))]
  rw [e2] at dd'
  have hl2 : (xs.filter fun x => decide (x.1 ≠ q)).length ≤ sizeLine := Nat.le_trans (List.length_filter_le _ _) z
  have nd2 : ((xs.filter fun x => decide (x.1 ≠ q)).map (·.1)).Nodup := List.Sublist.nodup (List.Sublist.map _ List.filter_sublist) nd
  have he : ∃ q, h'.get? a = some q := let ⟨q, _, _, hq, _⟩ := dd'; ⟨q, hq⟩
  exact wpAny_deleteEach_nil ⟨σ, _, d_write I2 (by rw [d.1]; exact True.intro) sb he (dno_ok (dn_new dd' hl2 hd nd2)), q2⟩
/-- {} -/
def tDNewN (P : Program) (w : World) : TE := fun _ H Q => ∀ p, H p = none → Q (.ref p) (upd H p (DNO P w p []))
theorem pe_dnewN : PE X (.Dict [] [] pos) (tDNewN X.prog X.w) := ⟨fun pins s σ H Q I h =>
  wpAny_Dict_empty ⟨.ref s.heap.objs.size, _, I.laid (a := s.heap.objs.size) (o := DNO X.prog X.w s.heap.objs.size []) (t' := s.toks) (fun _ _ q => Heap.get?_push_of_some _ q) (Nat.le_refl _)
    (dno_ok ⟨Nat.zero_le _, beq_eq_false_iff_ne.mpr (Ne.symm (Nat.ne_of_lt I.big)), ⟨_, #[], 0, Heap.get?_push_size _ rfl, ⟨rfl, rfl, rfl⟩, rfl, rfl⟩, List.nodup_nil⟩), rfl, h _ (I.hok.fresh (Nat.le_refl _))⟩⟩
/-- list(d) -/
theorem call_list_dN (hc : X.calm = true) : CallR X (.type "list") (fun xs H Q => ∃ d ys, xs = [V.ref d] ∧ NDict X.prog X.w H d ys ∧ ∀ p, H p = none → Q (.ref p) (upd H p (.lst (ys.map fun y => V.ref y.2)))) := by
  intro pins s σ H xs us Q I r h
  obtain ⟨d, ys, rfl, hd, q⟩ := h
  obtain ⟨u, rfl, rx⟩ := r.one
  cases rx
  obtain ⟨z, hs, ⟨o, es, ep, ho, hx, hdt, he, _, _⟩, nd⟩ := dn_of I.hok hd
  have l1 : es.size = ys.length := by rw [size_of_entries he]; unfold xsH; rw [List.length_map]
  refine PySem.W.kdl_call (kdl_raw hs hx hdt) (I.ok.hd hc) ho (by omega) fun h' tk acc' c' kp e it => ?_
  have ea : acc'.toList = ys.map fun x => Value.ref x.2 := by
    have hl : acc'.toList.length = ys.length := by rw [Array.length_toList, it.1]; exact l1
    apply List.ext_getElem?
    intro j
    rw [List.getElem?_map]
    cases hj : acc'.toList[j]? with
    | none =>
      have h1 := List.getElem?_eq_none_iff.mp hj
      rw [List.getElem?_eq_none (by omega)]
      all_goals rfl
    | some v =>
      obtain ⟨en, hen, hv⟩ := it.2 j v (by rw [← Array.getElem?_toList]; exact hj)
      have qe := entry_at he j
      rw [hen] at qe
      unfold xsH at qe
      rw [List.getElem?_map] at qe
      cases hb : ys[j]? with
      | none =>
        rw [hb] at qe
        exact nomatch (show some en = none from qe)
      | some b =>
        rw [hb] at qe
        have e2 := Option.some.inj qe
        rw [hv, e2]
        all_goals rfl
  have eb : acc'.toList = (ys.map fun x => x.2).map Value.ref := by rw [ea, List.map_map]; all_goals rfl
  have rv : Vals ((ys.map fun x => x.2).map V.ref) acc'.toList := by rw [eb]; exact vals_refs _
  have e3 : (ys.map fun x => x.2).map V.ref = ys.map fun y => V.ref y.2 := by rw [List.map_map]; rfl
  have hz : ((ys.map fun x => x.2).map V.ref).length ≤ sizeLine := by rw [List.length_map, List.length_map]; omega
  rw [← e3] at q
  refine ⟨.ref s.heap.objs.size, _, I.laid (t' := tk) (o := .lst ((ys.map fun x => x.2).map V.ref)) kp (Nat.le_refl _) ?_, rfl, q _ (I.hok.fresh (Nat.le_refl _))⟩
  exact ⟨hz, acc'.toList, c', rv, by rw [Array.toArray_toList]; exact e⟩
end
end Vl
/-! A layer of plain data over HandS: what a def computes is told over data (D) with no heap in sight. -/
namespace Vl
open PySem PySem.Spec PyProof.Rows L2

/-! ### data -/
inductive D where
  | non | bl (b : Bool) | int (i : Int) | str (x : Str)
  | tup (ds : List D) | lst (ds : List D) | ins (c : Nat) (ds : List D) | dct (t : Bool) (ks : List (List Key)) (ds : List D)
  /-- the script: read, never written -/
  | scr (ns : List Int)
  /-- a dict whose keys are pairs of pairs of ints; True behind each -/
  | nd (ks : List Q4)
/-- such a key -/
def nkD (q : Q4) : D := .tup [.tup [.int q.1.1, .int q.1.2], .tup [.int q.2.1, .int q.2.2]]

/-- the text's classes by number: where a class stands, its fields in their order -/
structure Tb where
  K : PySem.W.Frag
  cl : Nat → Addr
  fs : Nat → List Str
  pr : Program
  wd : World

def keyD : Key → D
  | .inl i => .int i
  | .inr x => .str x
/-- the key that a datum is: of a dict with flat keys, of one whose keys are tuples -/
def keyF : D → Option Key
  | .int i => some (.inl i)
  | .str x => some (.inr x)
  | _ => none
def keysF : List D → Option (List Key)
  | [] => some []
  | d :: ds => match keyF d, keysF ds with
    | some k, some ks => some (k :: ks)
    | _, _ => none
def keyO : Bool → D → Option (List Key)
  | true, .tup ds => keysF ds
  | true, _ => none
  | false, d => (keyF d).map fun k => [k]
/-- o is a dict with these keys and values -/
def DctO (t : Bool) (o : HO) (ks : List (List Key)) (vs : List V) : Prop := ks.Nodup ∧ match t with
  | false => ∃ kvs : List (Key × V), o = .dK kvs ∧ ks = kvs.map (fun p => [p.1]) ∧ vs = kvs.map (·.2)
  | true => ∃ kvs : List (List Key × V), o = .dT kvs ∧ ks = kvs.map (·.1) ∧ vs = kvs.map (·.2)

theorem Same.seqT {K : PySem.W.Frag} {H H' : Hp} {a : Addr} {xs : List V} (e : Same H H') (h : SqT K H a xs) : SqT K H' a xs := by
  rcases h with (h | ⟨o, h⟩) | h
  · exact .inl (.inl (e _ _ h))
  · exact .inl (.inr ⟨o, e _ _ h⟩)
  · exact .inr h

mutual
/-- v stands for d, by what the heap F holds -/
inductive Rep (T : Tb) (F : Hp) : V → D → Prop
  | non : Rep T F .non .non
  | bl (b : Bool) : Rep T F (.bl b) (.bl b)
  | int (i : Int) : Rep T F (.int i) (.int i)
  | str (x : Str) : Rep T F (.str x) (.str x)
  | tup {a : Addr} {vs : List V} {ds : List D} : F a = some (.tup vs) → Reps T F vs ds → Rep T F (.ref a) (.tup ds)
  | lst {a : Addr} {vs : List V} {ds : List D} : F a = some (.lst vs) → Reps T F vs ds → Rep T F (.ref a) (.lst ds)
  | scr {a : Addr} {ns : List Int} : SqL T.K F a (ns.map V.int) → Rep T F (.ref a) (.scr ns)
  | ins {a dx : Addr} {c : Nat} {vs : List V} {ds : List D} : F a = some (.ins (T.cl c) dx ((T.fs c).zip vs)) → (T.fs c).length = vs.length → Reps T F vs ds → Rep T F (.ref a) (.ins c ds)
  | nd {a : Addr} {ks : List Q4} {xs : List (Q4 × Addr)} : ks = xs.map (·.1) → F a = some (DNO T.pr T.wd a xs) → Reps T F (xs.map fun x => V.ref x.2) (xs.map fun x => nkD x.1) → Rep T F (.ref a) (.nd ks)
  | dct {a : Addr} {o : HO} {t : Bool} {ks : List (List Key)} {vs : List V} {ds : List D} : F a = some o → DctO t o ks vs → Reps T F vs ds → Rep T F (.ref a) (.dct t ks ds)
inductive Reps (T : Tb) (F : Hp) : List V → List D → Prop
  | nil : Reps T F [] []
  | cons {v : V} {vs : List V} {d : D} {ds : List D} : Rep T F v d → Reps T F vs ds → Reps T F (v :: vs) (d :: ds)
end

section
variable {T : Tb} {F F' H H' : Hp}
mutual
theorem Rep.mono (e : Same F F') : ∀ {v : V} {d : D}, Rep T F v d → Rep T F' v d
  | _, _, .non => .non
  | _, _, .bl b => .bl b
  | _, _, .int i => .int i
  | _, _, .str x => .str x
  | _, _, .tup h r => .tup (e _ _ h) (Reps.mono e r)
  | _, _, .lst h r => .lst (e _ _ h) (Reps.mono e r)
  | _, _, .scr h => .scr (e.seq h)
  | _, _, .ins h l r => .ins (e _ _ h) l (Reps.mono e r)
  | _, _, .dct h l r => .dct (e _ _ h) l (Reps.mono e r)
  | _, _, .nd q h r => .nd q (e _ _ h) (Reps.mono e r)
theorem Reps.mono (e : Same F F') : ∀ {vs : List V} {ds : List D}, Reps T F vs ds → Reps T F' vs ds
  | _, _, .nil => .nil
  | _, _, .cons h r => .cons (Rep.mono e h) (Reps.mono e r)
end
theorem Reps.length : ∀ {vs : List V} {ds : List D}, Reps T F vs ds → vs.length = ds.length
  | _, _, .nil => rfl
  | _, _, .cons _ r => by simp [Reps.length r]
theorem Reps.get : ∀ {vs : List V} {ds : List D} {i : Nat} {v : V}, Reps T F vs ds → vs[i]? = some v → ∃ d, ds[i]? = some d ∧ Rep T F v d
  | _, _, _, _, .nil, h => by simp at h
  | _, _, 0, _, .cons r _, h => by simp at h; subst h; exact ⟨_, rfl, r⟩
  | _, _, i + 1, _, .cons _ r, h => by simpa using Reps.get (i := i) r (by simpa using h)
theorem Reps.getD : ∀ {vs : List V} {ds : List D} {i : Nat} {d : D}, Reps T F vs ds → ds[i]? = some d → ∃ v, vs[i]? = some v ∧ Rep T F v d
  | _, _, _, _, .nil, h => by simp at h
  | _, _, 0, _, .cons r _, h => by simp at h; subst h; exact ⟨_, rfl, r⟩
  | _, _, i + 1, _, .cons _ r, h => by simpa using Reps.getD (i := i) r (by simpa using h)
theorem Reps.append : ∀ {vs ws : List V} {ds es : List D}, Reps T F vs ds → Reps T F ws es → Reps T F (vs ++ ws) (ds ++ es)
  | _, _, _, _, .nil, s => s
  | _, _, _, _, .cons r t, s => .cons r (Reps.append t s)
theorem Reps.snoc {vs : List V} {ds : List D} {v : V} {d : D} (r : Reps T F vs ds) (h : Rep T F v d) : Reps T F (vs ++ [v]) (ds ++ [d]) := r.append (.cons h .nil)
theorem Reps.take : ∀ {vs : List V} {ds : List D} (n : Nat), Reps T F vs ds → Reps T F (vs.take n) (ds.take n)
  | _, _, 0, _ => .nil
  | _, _, n + 1, .nil => .nil
  | _, _, n + 1, .cons r t => .cons r (Reps.take n t)
theorem Reps.drop : ∀ {vs : List V} {ds : List D} (n : Nat), Reps T F vs ds → Reps T F (vs.drop n) (ds.drop n)
  | _, _, 0, r => r
  | _, _, n + 1, .nil => .nil
  | _, _, n + 1, .cons _ t => Reps.drop n t
theorem Reps.set : ∀ {vs : List V} {ds : List D} {v : V} {d : D} (n : Nat), Reps T F vs ds → Rep T F v d → Reps T F (vs.set n v) (ds.set n d)
  | _, _, _, _, _, .nil, _ => .nil
  | _, _, _, _, 0, .cons _ t, h => .cons h t
  | _, _, _, _, n + 1, .cons r t, h => .cons r (Reps.set n t h)
theorem Reps.eraseIdx : ∀ {vs : List V} {ds : List D} (n : Nat), Reps T F vs ds → Reps T F (vs.eraseIdx n) (ds.eraseIdx n)
  | _, _, _, .nil => .nil
  | _, _, 0, .cons _ t => t
  | _, _, n + 1, .cons r t => .cons r (Reps.eraseIdx n t)
theorem Reps.dropLast : ∀ {vs : List V} {ds : List D}, Reps T F vs ds → Reps T F vs.dropLast ds.dropLast
  | _, _, .nil => .nil
  | _, _, .cons r .nil => .nil
  | _, _, .cons r (.cons q t) => .cons r (Reps.dropLast (.cons q t))
theorem Reps.reverse : ∀ {vs : List V} {ds : List D}, Reps T F vs ds → Reps T F vs.reverse ds.reverse
  | _, _, .nil => .nil
  | _, _, .cons r t => by
    rw [List.reverse_cons, List.reverse_cons]
    exact (Reps.reverse t).snoc r
theorem Reps.replicate {vs : List V} {ds : List D} (r : Reps T F vs ds) : ∀ n : Nat, Reps T F (List.replicate n vs).flatten (List.replicate n ds).flatten
  | 0 => .nil
  | n + 1 => by
    rw [List.replicate_succ, List.replicate_succ, List.flatten_cons, List.flatten_cons]
    exact r.append (Reps.replicate r n)
theorem rep_int {v : V} {i : Int} (h : Rep T F v (.int i)) : v = .int i := by cases h; rfl
theorem rep_bl {v : V} {i : Bool} (h : Rep T F v (.bl i)) : v = .bl i := by cases h; rfl
theorem rep_str {v : V} {i : Str} (h : Rep T F v (.str i)) : v = .str i := by cases h; rfl
theorem rep_non {v : V} (h : Rep T F v .non) : v = .non := by cases h; rfl
theorem rep_tup {v : V} {ds : List D} (h : Rep T F v (.tup ds)) : ∃ a vs, v = .ref a ∧ F a = some (.tup vs) ∧ Reps T F vs ds := by
  cases h with
  | tup h r => exact ⟨_, _, rfl, h, r⟩
theorem rep_lst {v : V} {ds : List D} (h : Rep T F v (.lst ds)) : ∃ a vs, v = .ref a ∧ F a = some (.lst vs) ∧ Reps T F vs ds := by
  cases h with
  | lst h r => exact ⟨_, _, rfl, h, r⟩
theorem rep_ins {v : V} {c : Nat} {ds : List D} (h : Rep T F v (.ins c ds)) : ∃ a dx vs, v = .ref a ∧ F a = some (.ins (T.cl c) dx ((T.fs c).zip vs)) ∧ (T.fs c).length = vs.length ∧ Reps T F vs ds := by
  cases h with
  | ins h l r => exact ⟨_, _, _, rfl, h, l, r⟩
theorem reps_ints : ∀ {vs : List V} {ns : List Int}, Reps T F vs (ns.map D.int) → vs = ns.map V.int
  | _, [], .nil => rfl
  | _, n :: ns, .cons r t => by rw [rep_int r, reps_ints t]; rfl
theorem reps_of_ints : ∀ ns : List Int, Reps T F (ns.map V.int) (ns.map D.int)
  | [] => .nil
  | n :: ns => .cons (.int n) (reps_of_ints ns)
end

/-! ### what is owned: it may be changed -/
/-- own objects as a tree: lists and dicts of clean things; lists, dicts, instances whose items may be own themselves -/
inductive M where
  | cl (d : D)
  | fl (ds : List D) | fd (t : Bool) (ks : List (List Key)) (ds : List D)
  | tl (ms : List M) | td (t : Bool) (ks : List (List Key)) (ms : List M) | ti (c : Nat) (ms : List M)
  /-- a tuple of own things -/
  | tp (ms : List M)
  | nd (ks : List Q4)
mutual
def M.toD : M → D
  | .cl d => d
  | .fl ds => .lst ds
  | .fd t ks ds => .dct t ks ds
  | .tl ms => .lst (M.toDs ms)
  | .td t ks ms => .dct t ks (M.toDs ms)
  | .ti c ms => .ins c (M.toDs ms)
  | .tp ms => .tup (M.toDs ms)
  | .nd ks => .nd ks
def M.toDs : List M → List D
  | [] => []
  | m :: ms => m.toD :: M.toDs ms
end
mutual
/-- v is the root of the tree m; A: where its objects stand -/
inductive Own (T : Tb) (F H : Hp) : V → M → List Addr → Prop
  | cl {v : V} {d : D} : Rep T F v d → Own T F H v (.cl d) []
  | fl {p : Addr} {vs : List V} {ds : List D} : H p = some (.lst vs) → F p = none → Reps T F vs ds → Own T F H (.ref p) (.fl ds) [p]
  | fd {p : Addr} {o : HO} {t : Bool} {ks : List (List Key)} {vs : List V} {ds : List D} : H p = some o → F p = none → DctO t o ks vs → Reps T F vs ds → Own T F H (.ref p) (.fd t ks ds) [p]
  | tl {p : Addr} {vs : List V} {ms : List M} {A : List Addr} : H p = some (.lst vs) → F p = none → p ∉ A → Owns T F H vs ms A → Own T F H (.ref p) (.tl ms) (p :: A)
  | td {p : Addr} {o : HO} {t : Bool} {ks : List (List Key)} {vs : List V} {ms : List M} {A : List Addr} : H p = some o → F p = none → DctO t o ks vs → p ∉ A → Owns T F H vs ms A → Own T F H (.ref p) (.td t ks ms) (p :: A)
  | ti {p dx : Addr} {c : Nat} {vs : List V} {ms : List M} {A : List Addr} : H p = some (.ins (T.cl c) dx ((T.fs c).zip vs)) → F p = none → (T.fs c).length = vs.length → p ∉ A → Owns T F H vs ms A → Own T F H (.ref p) (.ti c ms) (p :: A)
  | nd {p : Addr} {ks : List Q4} {xs : List (Q4 × Addr)} : ks = xs.map (·.1) → H p = some (DNO T.pr T.wd p xs) → F p = none → Reps T F (xs.map fun x => V.ref x.2) (xs.map fun x => nkD x.1) → Own T F H (.ref p) (.nd ks) [p]
  | tp {p : Addr} {vs : List V} {ms : List M} {A : List Addr} : H p = some (.tup vs) → p ∉ A → Owns T F H vs ms A → Own T F H (.ref p) (.tp ms) (p :: A)
inductive Owns (T : Tb) (F H : Hp) : List V → List M → List Addr → Prop
  | nil : Owns T F H [] [] []
  | cons {v : V} {vs : List V} {m : M} {ms : List M} {A B : List Addr} : Own T F H v m A → Owns T F H vs ms B → (∀ a ∈ A, a ∉ B) → Owns T F H (v :: vs) (m :: ms) (A ++ B)
end
section
variable {T : Tb} {F F' H H' : Hp}
/-- no tuple stands there -/
def NT (H : Hp) (a : Addr) : Prop := ∀ vs, H a ≠ some (.tup vs)
theorem nt_of {H : Hp} {p : Addr} {o : HO} (h : H p = some o) (ho : ∀ vs, o ≠ .tup vs := by intro vs z; cases z) : NT H p := fun vs e => ho vs (by rw [h] at e; exact Option.some.inj e)
theorem dctO_nt {t : Bool} {o : HO} {ks : List (List Key)} {vs : List V} (h : DctO t o ks vs) : ∀ ws, o ≠ .tup ws := by
  intro ws z
  cases t with
  | false => obtain ⟨_, k1, rfl, _⟩ := h; cases z
  | true => obtain ⟨_, k1, rfl, _⟩ := h; cases z
mutual
theorem Own.mem : ∀ {v : V} {m : M} {A : List Addr}, Own T F H v m A → ∀ a ∈ A, H a ≠ none ∧ (NT H a → F a = none)
  | _, _, _, .cl _ => fun a h => nomatch h
  | _, _, _, .fl h f _ => fun a q => by rw [List.mem_singleton.mp q]; exact ⟨by rw [h]; simp, fun _ => f⟩
  | _, _, _, .fd h f _ _ => fun a q => by rw [List.mem_singleton.mp q]; exact ⟨by rw [h]; simp, fun _ => f⟩
  | _, _, _, .tl h f _ r => fun a q => by
    rcases List.mem_cons.mp q with q | q
    · rw [q]; exact ⟨by rw [h]; simp, fun _ => f⟩
    · exact Owns.mem r a q
  | _, _, _, .td h f _ _ r => fun a q => by
    rcases List.mem_cons.mp q with q | q
    · rw [q]; exact ⟨by rw [h]; simp, fun _ => f⟩
    · exact Owns.mem r a q
  | _, _, _, .ti h f _ _ r => fun a q => by
    rcases List.mem_cons.mp q with q | q
    · rw [q]; exact ⟨by rw [h]; simp, fun _ => f⟩
    · exact Owns.mem r a q
  | _, _, _, .nd _ h f _ => fun a q => by rw [List.mem_singleton.mp q]; exact ⟨by rw [h]; simp, fun _ => f⟩
  | _, _, _, .tp h _ r => fun a q => by
    rcases List.mem_cons.mp q with q | q
    · rw [q]; exact ⟨by rw [h]; simp, fun n => absurd h (n _)⟩
    · exact Owns.mem r a q
theorem Owns.mem : ∀ {vs : List V} {ms : List M} {A : List Addr}, Owns T F H vs ms A → ∀ a ∈ A, H a ≠ none ∧ (NT H a → F a = none)
  | _, _, _, .nil => fun a h => nomatch h
  | _, _, _, .cons r t _ => fun a q => by
    rcases List.mem_append.mp q with q | q
    · exact Own.mem r a q
    · exact Owns.mem t a q
end
mutual
/-- its own objects stand as they stood -/
theorem Own.keep (e : Same F F') : ∀ {v : V} {m : M} {A : List Addr}, Own T F H v m A → (∀ a ∈ A, H' a = H a) → (∀ a ∈ A, NT H a → F' a = none) → Own T F' H' v m A
  | _, _, _, .cl r, _, _ => .cl (r.mono e)
  | _, _, _, .fl h f r, k, n => .fl ((k _ List.mem_cons_self).trans h) (n _ List.mem_cons_self (nt_of h)) (r.mono e)
  | _, _, _, .fd h f d r, k, n => .fd ((k _ List.mem_cons_self).trans h) (n _ List.mem_cons_self (nt_of h (dctO_nt d))) d (r.mono e)
  | _, _, _, .tl h f x r, k, n => .tl ((k _ List.mem_cons_self).trans h) (n _ List.mem_cons_self (nt_of h)) x (Owns.keep e r (fun a q => k a (List.mem_cons_of_mem _ q)) (fun a q => n a (List.mem_cons_of_mem _ q)))
  | _, _, _, .td h f d x r, k, n => .td ((k _ List.mem_cons_self).trans h) (n _ List.mem_cons_self (nt_of h (dctO_nt d))) d x (Owns.keep e r (fun a q => k a (List.mem_cons_of_mem _ q)) (fun a q => n a (List.mem_cons_of_mem _ q)))
  | _, _, _, .ti h f d x r, k, n => .ti ((k _ List.mem_cons_self).trans h) (n _ List.mem_cons_self (nt_of h)) d x (Owns.keep e r (fun a q => k a (List.mem_cons_of_mem _ q)) (fun a q => n a (List.mem_cons_of_mem _ q)))
  | _, _, _, .nd q h f r, k, n => .nd q ((k _ List.mem_cons_self).trans h) (n _ List.mem_cons_self (nt_of h (by intro vs z; cases z))) (r.mono e)
  | _, _, _, .tp h x r, k, n => .tp ((k _ List.mem_cons_self).trans h) x (Owns.keep e r (fun a q => k a (List.mem_cons_of_mem _ q)) (fun a q => n a (List.mem_cons_of_mem _ q)))
theorem Owns.keep (e : Same F F') : ∀ {vs : List V} {ms : List M} {A : List Addr}, Owns T F H vs ms A → (∀ a ∈ A, H' a = H a) → (∀ a ∈ A, NT H a → F' a = none) → Owns T F' H' vs ms A
  | _, _, _, .nil, _, _ => .nil
  | _, _, _, .cons r t d, k, n => .cons (Own.keep e r (fun a q => k a (List.mem_append_left _ q)) (fun a q => n a (List.mem_append_left _ q))) (Owns.keep e t (fun a q => k a (List.mem_append_right _ q)) (fun a q => n a (List.mem_append_right _ q))) d
end
mutual
/-- what is owned becomes clean -/
theorem Own.frz (e : Same F F') : ∀ {v : V} {m : M} {A : List Addr}, Own T F H v m A → (∀ a ∈ A, F' a = H a) → Rep T F' v m.toD
  | _, _, _, .cl r, _ => r.mono e
  | _, _, _, .fl h f r, k => .lst ((k _ List.mem_cons_self).trans h) (r.mono e)
  | _, _, _, .fd h f d r, k => .dct ((k _ List.mem_cons_self).trans h) d (r.mono e)
  | _, _, _, .tl h f x r, k => .lst ((k _ List.mem_cons_self).trans h) (Owns.frz e r fun a q => k a (List.mem_cons_of_mem _ q))
  | _, _, _, .td h f d x r, k => .dct ((k _ List.mem_cons_self).trans h) d (Owns.frz e r fun a q => k a (List.mem_cons_of_mem _ q))
  | _, _, _, .ti h f d x r, k => .ins ((k _ List.mem_cons_self).trans h) d (Owns.frz e r fun a q => k a (List.mem_cons_of_mem _ q))
  | _, _, _, .nd q h f r, k => .nd q ((k _ List.mem_cons_self).trans h) (r.mono e)
  | _, _, _, .tp h x r, k => .tup ((k _ List.mem_cons_self).trans h) (Owns.frz e r fun a q => k a (List.mem_cons_of_mem _ q))
theorem Owns.frz (e : Same F F') : ∀ {vs : List V} {ms : List M} {A : List Addr}, Owns T F H vs ms A → (∀ a ∈ A, F' a = H a) → Reps T F' vs (M.toDs ms)
  | _, _, _, .nil, _ => .nil
  | _, _, _, .cons r t d, k => .cons (Own.frz e r fun a q => k a (List.mem_append_left _ q)) (Owns.frz e t fun a q => k a (List.mem_append_right _ q))
end
theorem dctO_det {t : Bool} {o : HO} {ks ks' : List (List Key)} {vs vs' : List V} (h : DctO t o ks vs) (h' : DctO t o ks' vs') : ks = ks' ∧ vs = vs' := by
  cases t with
  | false =>
    obtain ⟨_, k1, rfl, rfl, rfl⟩ := h
    obtain ⟨_, k2, e, rfl, rfl⟩ := h'
    cases e; exact ⟨rfl, rfl⟩
  | true =>
    obtain ⟨_, k1, rfl, rfl, rfl⟩ := h
    obtain ⟨_, k2, e, rfl, rfl⟩ := h'
    cases e; exact ⟨rfl, rfl⟩
theorem zip_inj {fs : List Str} : ∀ {vs ws : List V}, fs.length = vs.length → fs.length = ws.length → fs.zip vs = fs.zip ws → vs = ws := by
  induction fs with
  | nil =>
    intro vs ws h1 h2 _
    cases vs with
    | nil => cases ws with
      | nil => rfl
      | cons _ _ => cases h2
    | cons _ _ => cases h1
  | cons f fs ih =>
    intro vs ws h1 h2 e
    cases vs with
    | nil => cases h1
    | cons v vs =>
      cases ws with
      | nil => cases h2
      | cons w ws =>
        simp only [List.zip_cons_cons, List.cons.injEq, Prod.mk.injEq, true_and] at e
        rw [e.1, ih (by simpa using h1) (by simpa using h2) e.2]
mutual
theorem Own.det : ∀ {v : V} {m : M} {A B : List Addr}, Own T F H v m A → Own T F H v m B → A = B
  | _, _, _, _, .cl _, .cl _ => rfl
  | _, _, _, _, .fl _ _ _, .fl _ _ _ => rfl
  | _, _, _, _, .fd _ _ _ _, .fd _ _ _ _ => rfl
  | _, _, _, _, .nd _ _ _ _, .nd _ _ _ _ => rfl
  | _, _, _, _, .tl h _ _ r, .tl h' _ _ r' => by
    rw [h] at h'; cases h'
    rw [Owns.det r r']
  | _, _, _, _, .td h _ d _ r, .td h' _ d' _ r' => by
    rw [h] at h'; cases h'
    obtain ⟨_, rfl⟩ := dctO_det d d'
    rw [Owns.det r r']
  | _, _, _, _, .ti h _ d _ r, .ti h' _ d' _ r' => by
    rw [h] at h'
    simp only [Option.some.injEq, HO.ins.injEq] at h'
    cases zip_inj d d' h'.2.2
    rw [Owns.det r r']
  | _, _, _, _, .tp h _ r, .tp h' _ r' => by
    rw [h] at h'; cases h'
    rw [Owns.det r r']
theorem Owns.det : ∀ {vs : List V} {ms : List M} {A B : List Addr}, Owns T F H vs ms A → Owns T F H vs ms B → A = B
  | _, _, _, _, .nil, .nil => rfl
  | _, _, _, _, .cons r t _, .cons r' t' _ => by rw [Own.det r r', Owns.det t t']
end
theorem Owns.length : ∀ {vs : List V} {ms : List M} {A : List Addr}, Owns T F H vs ms A → vs.length = ms.length
  | _, _, _, .nil => rfl
  | _, _, _, .cons _ t _ => by simp [Owns.length t]
/-- what is owned, seen -/
theorem Own.rep {v : V} {m : M} {A : List Addr} (e : Same F H) (h : Own T F H v m A) : Rep T H v m.toD := h.frz e fun _ _ => rfl
theorem own_clean {v : V} {d : D} {A : List Addr} (h : Own T F H v (.cl d) A) : Rep T F v d ∧ A = [] := by
  cases h with
  | cl r => exact ⟨r, rfl⟩
theorem own_fl {v : V} {ds : List D} {A : List Addr} (h : Own T F H v (.fl ds) A) : ∃ p vs, v = .ref p ∧ A = [p] ∧ H p = some (.lst vs) ∧ F p = none ∧ Reps T F vs ds := by
  cases h with
  | fl h f r => exact ⟨_, _, rfl, rfl, h, f, r⟩
theorem own_fd {v : V} {t : Bool} {ks : List (List Key)} {ds : List D} {A : List Addr} (h : Own T F H v (.fd t ks ds) A) : ∃ p o vs, v = .ref p ∧ A = [p] ∧ H p = some o ∧ F p = none ∧ DctO t o ks vs ∧ Reps T F vs ds := by
  cases h with
  | fd h f d r => exact ⟨_, _, _, rfl, rfl, h, f, d, r⟩
theorem own_tl {v : V} {ms : List M} {A : List Addr} (h : Own T F H v (.tl ms) A) : ∃ p vs B, v = .ref p ∧ A = p :: B ∧ H p = some (.lst vs) ∧ F p = none ∧ p ∉ B ∧ Owns T F H vs ms B := by
  cases h with
  | tl h f x r => exact ⟨_, _, _, rfl, rfl, h, f, x, r⟩
theorem own_td {v : V} {t : Bool} {ks : List (List Key)} {ms : List M} {A : List Addr} (h : Own T F H v (.td t ks ms) A) : ∃ p o vs B, v = .ref p ∧ A = p :: B ∧ H p = some o ∧ F p = none ∧ DctO t o ks vs ∧ p ∉ B ∧ Owns T F H vs ms B := by
  cases h with
  | td h f d x r => exact ⟨_, _, _, _, rfl, rfl, h, f, d, x, r⟩
theorem own_ti {v : V} {c : Nat} {ms : List M} {A : List Addr} (h : Own T F H v (.ti c ms) A) : ∃ p dx vs B, v = .ref p ∧ A = p :: B ∧ H p = some (.ins (T.cl c) dx ((T.fs c).zip vs)) ∧ F p = none ∧ (T.fs c).length = vs.length ∧ p ∉ B ∧ Owns T F H vs ms B := by
  cases h with
  | ti h f d x r => exact ⟨_, _, _, _, rfl, rfl, h, f, d, x, r⟩
theorem own_nd {v : V} {ks : List Q4} {A : List Addr} (h : Own T F H v (.nd ks) A) : ∃ p xs, v = .ref p ∧ A = [p] ∧ ks = xs.map (·.1) ∧ H p = some (DNO T.pr T.wd p xs) ∧ F p = none ∧ Reps T F (xs.map fun x => V.ref x.2) (xs.map fun x => nkD x.1) := by
  cases h with
  | nd q h f r => exact ⟨_, _, rfl, rfl, q, h, f, r⟩
theorem own_tp {v : V} {ms : List M} {A : List Addr} (h : Own T F H v (.tp ms) A) : ∃ p vs B, v = .ref p ∧ A = p :: B ∧ H p = some (.tup vs) ∧ p ∉ B ∧ Owns T F H vs ms B := by
  cases h with
  | tp h x r => exact ⟨_, _, _, rfl, rfl, h, x, r⟩
end
/-- the heap F, and of H what stands at A -/
noncomputable def ext (F : Hp) (A : List Addr) (H : Hp) : Hp := fun a => if a ∈ A then H a else F a
theorem ext_in {F H : Hp} {A : List Addr} {a : Addr} (h : a ∈ A) : ext F A H a = H a := if_pos h
theorem ext_out {F H : Hp} {A : List Addr} {a : Addr} (h : a ∉ A) : ext F A H a = F a := if_neg h
theorem ext_same {F H : Hp} {A : List Addr} (h : Same F H) : Same F (ext F A H) := fun a o e => by
  by_cases q : a ∈ A
  · rw [ext_in q]; exact h _ _ e
  · rw [ext_out q]; exact e
/-- a value that an expression hands on: clean data; a borrowed or an own object seen; a new object that nobody else has -/
inductive W where
  | cl (d : D) | bw (m : M) | ow (m : M) | fr (m : M)
def W.toD : W → D
  | .cl d => d
  | .bw m => m.toD
  | .ow m => m.toD
  | .fr m => m.toD
/-- a slot -/
inductive AV where
  | non | im (d : D) | bw (m : M) | ow (l : Bool) (m : M)

/-- a def's call: the heap and the clean heap at its start; what it may change of that heap, and its root -/
structure Gx where
  H0 : Hp
  F0 : Hp
  L : List Addr
  r : V := .non

section
variable (T : Tb)
def RepW (G : Gx) (Hs F H : Hp) (v : V) : W → Prop
  | .cl d => Rep T F v d
  | .bw m => ∃ A, Own T F H v m A ∧ ∀ a ∈ A, a ∉ G.L ∧ G.H0 a ≠ none
  | .ow m => ∃ A, Own T F H v m A
  | .fr m => ∃ A, Own T F H v m A ∧ ∀ a ∈ A, Hs a = none
def OwS (G : Gx) (v : V) (A : List Addr) (l : Bool) : Prop := if l = true then v = G.r ∧ ∀ a ∈ A, a ∈ G.L ∨ G.H0 a = none else ∀ a ∈ A, G.H0 a = none
def SlotOk (G : Gx) (F H : Hp) (o : Option V) : AV → Prop
  | .non => True
  | .im d => ∃ v, o = some v ∧ Rep T F v d
  | .bw m => ∃ v A, o = some v ∧ Own T F H v m A ∧ ∀ a ∈ A, a ∉ G.L ∧ G.H0 a ≠ none
  | .ow l m => ∃ v A, o = some v ∧ Own T F H v m A ∧ OwS G v A l
def gs (σ : L2.St) (i : Nat) : Option V := σ.getD i none
def gt (δ : List AV) (i : Nat) : AV := δ.getD i .non
structure RepS (G : Gx) (F H : Hp) (σ : L2.St) (δ : List AV) : Prop where
  ex : Same F H
  fr : ∀ a o, G.H0 a = some o → a ∉ G.L → H a = some o
  th : ∀ a, G.H0 a ≠ none → H a ≠ none
  lh : ∀ a, a ∈ G.L → G.H0 a ≠ none
  f0 : Same G.F0 F
  fn : ∀ a, G.H0 a ≠ none → a ∉ G.L → NT H a → F a = G.F0 a
  len : δ.length = σ.length
  sl : ∀ i, SlotOk T G F H (gs σ i) (gt δ i)
  dj : ∀ i j l l' m m' v w A B, i ≠ j → gt δ i = .ow l m → gt δ j = .ow l' m' → gs σ i = some v → gs σ j = some w → Own T F H v m A → Own T F H w m' B → ∀ a ∈ A, a ∉ B
end
/-- the heap has grown, and of it the clean part F -/
structure Go (F H F' H' : Hp) : Prop where
  h : Same H H'
  f : Same F F'
  ex : Same F' H'
  n : ∀ a, H a ≠ none → NT H a → F' a = F a
section
variable {T : Tb} {G : Gx} {F F' F2 H H' H2 Hs : Hp} {σ : L2.St} {δ : List AV} {v : V} {w : W} {m : M} {p : Addr} {A : List Addr}
theorem Go.refl (e : Same F H) : Go F H F H := ⟨Same.refl _, Same.refl _, e, fun _ _ _ => rfl⟩
theorem Same.nn (e : Same H H') {a : Addr} (h : H a ≠ none) : H' a ≠ none := fun q => h (e.free q)
theorem Same.at (e : Same H H') {a : Addr} (h : H a ≠ none) : H' a = H a := by
  cases q : H a with
  | none => exact absurd q h
  | some o => exact e _ _ q
theorem Same.nt (e : Same H H') {a : Addr} (h : H a ≠ none) (n : NT H a) : NT H' a := fun vs z => n vs ((Same.at e h).symm.trans z)
theorem NT.at {a : Addr} (n : NT H a) (e : H' a = H a) : NT H' a := fun vs z => n vs (e.symm.trans z)
theorem NT.upd {x a : Addr} {o : HO} (n : NT (upd H x o) a) (h : NT H x) : NT H a := by
  by_cases q : a = x
  · exact q ▸ h
  · exact fun vs z => n vs ((upd_ne q).trans z)
theorem NT.back (e : Same H H') {a : Addr} (n : NT H' a) : NT H a := fun vs z => n vs (e _ _ z)
theorem Go.trans (a : Go F H F' H') (b : Go F' H' F2 H2) : Go F H F2 H2 :=
  ⟨a.h.trans b.h, a.f.trans b.f, b.ex, fun x hx nx => (b.n x (Same.nn a.h hx) (Same.nt a.h hx nx)).trans (a.n x hx nx)⟩
theorem Own.go (g : Go F H F' H') (h : Own T F H v m A) : Own T F' H' v m A :=
  h.keep g.f (fun a q => Same.at g.h (h.mem a q).1) (fun a q n => (g.n a (h.mem a q).1 n).trans ((h.mem a q).2 n))
theorem Owns.go {vs : List V} {ms : List M} (g : Go F H F' H') (h : Owns T F H vs ms A) : Owns T F' H' vs ms A :=
  h.keep g.f (fun a q => Same.at g.h (h.mem a q).1) (fun a q n => (g.n a (h.mem a q).1 n).trans ((h.mem a q).2 n))
theorem RepW.go (g : Go F H F' H') : ∀ {w : W}, RepW T G Hs F H v w → RepW T G Hs F' H' v w
  | .cl d, h => Rep.mono g.f h
  | .bw m, ⟨A, h, a⟩ => ⟨A, h.go g, a⟩
  | .ow m, ⟨A, h⟩ => ⟨A, h.go g⟩
  | .fr m, ⟨A, h, a⟩ => ⟨A, h.go g, a⟩
/-- seen from an earlier heap -/
theorem RepW.back (e : Same H2 Hs) : ∀ {w : W}, RepW T G Hs F H v w → RepW T G H2 F H v w
  | .cl d, h => h
  | .bw m, h => h
  | .ow m, h => h
  | .fr m, ⟨A, h, a⟩ => ⟨A, h, fun x q => e.free (a x q)⟩
theorem RepW.rep (e : Same F H) : ∀ {w : W}, RepW T G Hs F H v w → Rep T H v w.toD
  | .cl d, h => Rep.mono e h
  | .bw m, ⟨A, h, _⟩ => h.rep e
  | .ow m, ⟨A, h⟩ => h.rep e
  | .fr m, ⟨A, h, _⟩ => h.rep e
theorem SlotOk.go {o : Option V} (g : Go F H F' H') : ∀ {a : AV}, SlotOk T G F H o a → SlotOk T G F' H' o a
  | .non, _ => trivial
  | .im d, ⟨v, e, h⟩ => ⟨v, e, Rep.mono g.f h⟩
  | .bw m, ⟨v, A, e, h, a⟩ => ⟨v, A, e, h.go g, a⟩
  | .ow l m, ⟨v, A, e, h, a⟩ => ⟨v, A, e, h.go g, a⟩
/-- an own slot's tree, before and behind -/
theorem RepS.own (R : RepS T G F H σ δ) {i : Nat} {l : Bool} (h : gt δ i = .ow l m) : ∃ v A, gs σ i = some v ∧ Own T F H v m A ∧ OwS G v A l := by
  have q := R.sl i
  rw [h] at q
  exact q
theorem RepS.go (R : RepS T G F H σ δ) (g : Go F H F' H') : RepS T G F' H' σ δ where
  ex := g.ex
  fr := fun a o h n => g.h _ _ (R.fr a o h n)
  th := fun a h => Same.nn g.h (R.th a h)
  lh := R.lh
  f0 := R.f0.trans g.f
  fn := fun a h l n => (g.n a (R.th a h) (n.back g.h)).trans (R.fn a h l (n.back g.h))
  len := R.len
  sl := fun i => (R.sl i).go g
  dj := fun i j l l' m m' v w A B ne e1 e2 e3 e4 o1 o2 => by
    obtain ⟨v', A', q1, q2, _⟩ := R.own e1
    obtain ⟨w', B', q3, q4, _⟩ := R.own e2
    rw [e3] at q1; cases q1
    rw [e4] at q3; cases q3
    rw [Own.det o1 (q2.go g), Own.det o2 (q4.go g)]
    exact R.dj i j l l' m m' _ _ _ _ ne e1 e2 e3 e4 q2 q4
/-- a new object is laid, clean -/
theorem Go.new {o : HO} (g : Go F H F' H') (hp : H' p = none) : Go F H (upd F' p o) (upd H' p o) := by
  have fp : F' p = none := g.ex.free hp
  have hp0 : H p = none := g.h.free hp
  refine ⟨fun b x e => ?_, fun b x e => ?_, fun b x e => ?_, fun a ha => ?_⟩
  · have q := g.h _ _ e
    rw [upd_ne (ne_of_none q hp)]; exact q
  · have q := g.f _ _ e
    rw [upd_ne (ne_of_none q fp)]; exact q
  · by_cases hb : b = p
    · subst hb; rw [upd_same] at e ⊢; exact e
    · rw [upd_ne hb] at e ⊢; exact g.ex _ _ e
  · have : a ≠ p := fun q => ha (q ▸ hp0)
    rw [upd_ne this]; exact g.n a ha
/-- a new object is laid, not clean -/
theorem Go.lay {o : HO} (g : Go F H F' H') (hp : H' p = none) : Go F H F' (upd H' p o) := by
  refine ⟨fun b x e => ?_, g.f, fun b x e => ?_, g.n⟩
  · have q := g.h _ _ e
    rw [upd_ne (ne_of_none q hp)]; exact q
  · have q := g.ex _ _ e
    rw [upd_ne (ne_of_none q hp)]; exact q
/-- what nobody else has becomes clean -/
theorem Go.freeze (g : Go F H F' H') (h0 : ∀ a ∈ A, H a = none) : Go F H (ext F' A H') H' := by
  refine ⟨g.h, fun b x e => ext_same g.ex _ _ (g.f _ _ e), fun b x e => ?_, fun a ha => ?_⟩
  · by_cases hb : b ∈ A
    · rw [ext_in hb] at e; exact e
    · rw [ext_out hb] at e; exact g.ex _ _ e
  · rw [ext_out fun q => ha (h0 a q)]; exact g.n a ha
theorem Same.updN {o : HO} (h : F p = none) : Same F (upd F p o) := fun b x e => by
  rw [upd_ne (ne_of_none e h)]; exact e
def argW : W → W
  | .fr m => .cl m.toD
  | w => w
theorem RepW.arg (g : Go F H F' H') : ∀ {w : W}, RepW T G H F' H' v w → ∃ F2, Go F H F2 H' ∧ Go F' H' F' H' ∧ Same F' F2 ∧ RepW T G H F2 H' v (argW w) ∧ (∀ a, H a ≠ none → NT H a → F2 a = F' a)
  | .cl d, h => ⟨F', g, Go.refl g.ex, Same.refl _, h, fun _ _ _ => rfl⟩
  | .bw m, h => ⟨F', g, Go.refl g.ex, Same.refl _, h, fun _ _ _ => rfl⟩
  | .ow m, h => ⟨F', g, Go.refl g.ex, Same.refl _, h, fun _ _ _ => rfl⟩
  | .fr m, ⟨A, h, a⟩ => by
    exact ⟨ext F' A H', g.freeze a, Go.refl g.ex, ext_same g.ex, h.frz (ext_same g.ex) fun x q => ext_in q, fun b hb _ => ext_out fun z => hb (a b z)⟩
end
end Vl
namespace Vl
open PySem PySem.Spec PyProof.Rows L2

/-! ### readings over data -/
abbrev AE := List AV → (W → Prop) → Prop
abbrev AA := List AV → (List W → Prop) → Prop
abbrev AT := List AV → (Bool → Prop) → Prop
structure AEnds where
  nx : List AV → Prop
  rt : W → List AV → Prop
  bk : List AV → Prop := fun _ => False
  ct : List AV → Prop := fun _ => False
abbrev AS := AEnds → List AV → Prop
def RepA (T : Tb) (G : Gx) (F H : Hp) (v : V) : W → Prop
  | .cl d => Rep T F v d
  | .bw m => ∃ A, Own T F H v m A ∧ ∀ a ∈ A, a ∉ G.L ∧ G.H0 a ≠ none
  | .ow m => ∃ A, Own T F H v m A
  | .fr _ => False
inductive RepAs (T : Tb) (G : Gx) (F H : Hp) : List V → List W → Prop
  | nil : RepAs T G F H [] []
  | cons {v : V} {vs : List V} {w : W} {ws : List W} : RepA T G F H v w → RepAs T G F H vs ws → RepAs T G F H (v :: vs) (w :: ws)
section
variable (T : Tb)
def rdE (a : AE) : TE := fun σ H Q => ∃ G F δ P, RepS T G F H σ δ ∧ a δ P ∧ ∀ w, P w → ∀ v F' H', Go F H F' H' → RepW T G H F' H' v w → Q v H'
def rdA (a : AA) : TA := fun σ H Q => ∃ G F δ P, RepS T G F H σ δ ∧ a δ P ∧ ∀ ws, P ws → ∀ vs F' H', Go F H F' H' → RepAs T G F' H' vs ws → Q vs H'
def rdT (a : AT) : TT := fun σ H Q => ∃ G F δ P, RepS T G F H σ δ ∧ a δ P ∧ ∀ b, P b → ∀ F' H', Go F H F' H' → Q b H'
/-- what a def hands back -/
def RepR (Hs F H : Hp) (v : V) : W → Prop
  | .cl d => Rep T F v d
  | .fr m => ∃ A, Own T F H v m A ∧ ∀ a ∈ A, Hs a = none
  | _ => False
/-- what is handed back stands apart from what was lent -/
def Apart (F H : Hp) (σ : L2.St) (δ : List AV) (v : V) (w : W) : Prop := ∀ m i m' u A B, w = .fr m → gt δ i = .ow true m' → gs σ i = some u → Own T F H v m A → Own T F H u m' B → ∀ a ∈ A, a ∉ B
structure EndsOk (G : Gx) (Fs : Hp) (E : AEnds) (D : Ends) : Prop where
  nx : ∀ δ, E.nx δ → ∀ F H σ, Same Fs F → RepS T G F H σ δ → D.nx σ H
  rt : ∀ w δ, E.rt w δ → ∀ v F H σ, Same Fs F → RepS T G F H σ δ → RepR T G.H0 F H v w → Apart T F H σ δ v w → D.rt v H
  bk : ∀ δ, E.bk δ → ∀ F H σ, Same Fs F → RepS T G F H σ δ → D.bk σ H
  ct : ∀ δ, E.ct δ → ∀ F H σ, Same Fs F → RepS T G F H σ δ → D.ct σ H
def rdS (a : AS) : TS := fun D σ H => ∃ G F δ E, RepS T G F H σ δ ∧ a E δ ∧ EndsOk T G F E D
end
section
variable {T : Tb} {G : Gx} {F F' F2 H H' H2 Hs : Hp} {σ : L2.St} {δ : List AV} {v : V} {w : W} {m : M} {p : Addr}
theorem EndsOk.mono {E : AEnds} {D : Ends} (k : EndsOk T G F E D) (e : Same F F') : EndsOk T G F' E D :=
  ⟨fun δ h F H σ s => k.nx δ h F H σ (e.trans s), fun w δ h v F H σ s => k.rt w δ h v F H σ (e.trans s), fun δ h F H σ s => k.bk δ h F H σ (e.trans s), fun δ h F H σ s => k.ct δ h F H σ (e.trans s)⟩
theorem RepA.go (g : Go F H F' H') : ∀ {w : W}, RepA T G F H v w → RepA T G F' H' v w
  | .cl d, h => Rep.mono g.f h
  | .bw m, ⟨A, h, a⟩ => ⟨A, h.go g, a⟩
  | .ow m, ⟨A, h⟩ => ⟨A, h.go g⟩
  | .fr m, h => h
theorem RepA.toW : ∀ {w : W}, RepA T G F H v w → RepW T G Hs F H v w
  | .cl d, h => h
  | .bw m, h => h
  | .ow m, h => h
  | .fr m, h => h.elim
theorem RepW.toA : ∀ {w : W}, RepW T G Hs F H v (argW w) → RepA T G F H v (argW w)
  | .cl d, h => h
  | .bw m, h => h
  | .ow m, h => h
  | .fr m, h => h
theorem RepAs.go (g : Go F H F' H') : ∀ {vs : List V} {ws : List W}, RepAs T G F H vs ws → RepAs T G F' H' vs ws
  | _, _, .nil => .nil
  | _, _, .cons h r => .cons (h.go g) (RepAs.go g r)
theorem gs_some {i : Nat} (h : gs σ i = some v) : σ[i]? = some (some v) := by
  unfold gs at h
  rw [List.getD_eq_getElem?_getD] at h
  cases q : σ[i]? with
  | none => rw [q] at h; cases h
  | some o => rw [q] at h; cases h; rfl
theorem gs_set {i j : Nat} {o : Option V} (hi : i < σ.length) : gs (σ.set i o) j = if i = j then o else gs σ j := by
  unfold gs
  rw [List.getD_eq_getElem?_getD, List.getD_eq_getElem?_getD, List.getElem?_set]
  by_cases h : i = j
  · subst h; simp [hi]
  · simp [h]
theorem gt_set {i j : Nat} {o : AV} (hi : i < δ.length) : gt (δ.set i o) j = if i = j then o else gt δ j := by
  unfold gt
  rw [List.getD_eq_getElem?_getD, List.getD_eq_getElem?_getD, List.getElem?_set]
  by_cases h : i = j
  · subst h; simp [hi]
  · simp [h]
theorem gs_out {i : Nat} {o : Option V} (hi : ¬ i < σ.length) : σ.set i o = σ := by
  rw [List.set_eq_of_length_le (by omega)]
theorem gt_out {i : Nat} {o : AV} (hi : ¬ i < δ.length) : δ.set i o = δ := by
  rw [List.set_eq_of_length_le (by omega)]
/-- an AE to a test's reading and so on -/
theorem _root_.L2.PE.mono {X : Cx} {e : Expr} {t t' : TE} (h : PE X e t) (k : ∀ σ H Q, t' σ H Q → t σ H Q) : PE X e t' := ⟨fun pins s σ H Q I q => h.run pins s σ H Q I (k σ H Q q)⟩
theorem _root_.L2.PT.mono {X : Cx} {e : Expr} {t t' : TT} (h : PT X e t) (k : ∀ σ H Q, t' σ H Q → t σ H Q) : PT X e t' := ⟨fun pins s σ H Q I q => h.run pins s σ H Q I (k σ H Q q)⟩
theorem _root_.L2.PW.mono {X : Cx} {e : Expr} {t t' : TT} (h : PW X e t) (k : ∀ σ H Q, t' σ H Q → t σ H Q) : PW X e t' := ⟨fun wh pins s σ H Q I q => h.run wh pins s σ H Q I (k σ H Q q)⟩
theorem _root_.L2.PA.mono {X : Cx} {e : List Expr} {t t' : TA} (h : PA X e t) (k : ∀ σ H Q, t' σ H Q → t σ H Q) : PA X e t' := ⟨fun pos pins s σ H Q I q => h.run pos pins s σ H Q I (k σ H Q q)⟩
theorem _root_.L2.PS.mono {X : Cx} {e : Stmt} {t t' : TS} (h : PS X e t) (k : ∀ D σ H, t' D σ H → t D σ H) : PS X e t' := ⟨fun pins s σ H D I q => h.run pins s σ H D I (k D σ H q)⟩
theorem _root_.L2.PSs.mono {X : Cx} {e : List Stmt} {t t' : TS} (h : PSs X e t) (k : ∀ D σ H, t' D σ H → t D σ H) : PSs X e t' := ⟨fun pins s σ H D I q => h.run pins s σ H D I (k D σ H q)⟩
end

/-! ### expressions -/
def slotW : AV → Option W
  | .non => none
  | .im d => some (.cl d)
  | .bw m => some (.bw m)
  | .ow _ m => some (.ow m)
def aV (i : Nat) : AE := fun δ Q => match slotW (gt δ i) with
  | some w => Q w
  | none => False
def aC (d : D) : AE := fun _ Q => Q (.cl d)
/-- one operand, by a step on values -/
def aUn (f : W → (W → Prop) → Prop) (a : AE) : AE := fun δ Q => a δ fun x => f x Q
def aBin (f : W → W → (W → Prop) → Prop) (a b : AE) : AE := fun δ Q => a δ fun x => b δ fun y => f x y Q
/-- a step on two values is right for a reading by values -/
def Bin2 (T : Tb) (r : R2) (f : W → W → (W → Prop) → Prop) : Prop := ∀ (G : Gx) (F H F' H' : Hp) (x y : V) (u w : W) (P : W → Prop) (Q : VK), Go F H F' H' → RepW T G H F' H' x u → RepW T G H F' H' y w → f u w P →
  (∀ z, P z → ∀ v F2 H2, Go F H F2 H2 → RepW T G H F2 H2 v z → Q v H2) → r x y H' Q
def Un1 (T : Tb) (r : V → Hp → VK → Prop) (f : W → (W → Prop) → Prop) : Prop := ∀ (G : Gx) (F H F' H' : Hp) (x : V) (u : W) (P : W → Prop) (Q : VK), Go F H F' H' → RepW T G H F' H' x u → f u P →
  (∀ z, P z → ∀ v F2 H2, Go F H F2 H2 → RepW T G H F2 H2 v z → Q v H2) → r x H' Q
section
variable {T : Tb} {X : Cx} {a b : Expr} {x y : AE} {pos : Pos} {r : R2} {r1 : V → Hp → VK → Prop} {f : W → W → (W → Prop) → Prop} {f1 : W → (W → Prop) → Prop}
theorem rd_un (hf : Un1 T r1 f1) {σ : L2.St} {H : Hp} {Q : VK} (h : rdE T (aUn f1 x) σ H Q) : tUn r1 (rdE T x) σ H Q := by
  obtain ⟨G, F, δ, P, R, h, k⟩ := h
  refine ⟨G, F, δ, _, R, h, fun u hu v F' H' g ru => ?_⟩
  exact hf G F H F' H' v u P Q g ru hu k
theorem rd_bin (hf : Bin2 T r f) {σ : L2.St} {H : Hp} {Q : VK} (h : rdE T (aBin f x y) σ H Q) : tOp r (rdE T x) (rdE T y) σ H Q := by
  obtain ⟨G, F, δ, P, R, h, k⟩ := h
  refine ⟨G, F, δ, _, R, h, fun u hu v F' H' g ru => ?_⟩
  refine ⟨G, F', δ, _, R.go g, hu, fun w hw z F2 H2 g2 rw => ?_⟩
  exact hf G F H F2 H2 v z u w P Q (g.trans g2) (ru.go g2) (rw.back g.h) hw k
theorem e_v (i : Nat) {s : Str} (hN : X.N[i]? = some s := by rfl) (hv : Vis X.env.scope s := by first | exact Or.inl rfl | exact Or.inr (Or.inl rfl) | exact Or.inr (Or.inr rfl)) (hd : (s == ("__debug__" : Str)) = false := by decide)
    (hcd : (s == ("__classdict__" : Str)) = false := by decide) : PE X (.Name s pos) (rdE T (aV i)) := by
  refine (pe_var hN hv hd hcd).mono fun σ H Q h => ?_
  obtain ⟨G, F, δ, P, R, h, k⟩ := h
  have q := R.sl i
  unfold aV at h
  generalize gt δ i = a at h q
  cases a with
  | non => exact h.elim
  | im d =>
    obtain ⟨v, e, r⟩ := q
    exact ⟨v, gs_some e, k _ h v F H (Go.refl R.ex) r⟩
  | bw m =>
    obtain ⟨v, A, e, r⟩ := q
    exact ⟨v, gs_some e, k _ h _ F H (Go.refl R.ex) ⟨A, r⟩⟩
  | ow l m =>
    obtain ⟨v, A, e, r, _⟩ := q
    exact ⟨v, gs_some e, k _ h _ F H (Go.refl R.ex) ⟨A, r⟩⟩
theorem rd_c {d : D} {v : V} (hv : ∀ F, Rep T F v d) {σ : L2.St} {H : Hp} {Q : VK} (h : rdE T (aC d) σ H Q) : tC v σ H Q := by
  obtain ⟨G, F, δ, P, R, h, k⟩ := h
  exact k _ h v F H (Go.refl R.ex) (hv F)
theorem e_int {i : Int} {j} : PE X (.Constant (.int i) j pos) (rdE T (aC (.int i))) := pe_int.mono fun _ _ _ h => rd_c (fun _ => .int i) h
theorem e_bl {i : Bool} {j} : PE X (.Constant (.bool i) j pos) (rdE T (aC (.bl i))) := pe_bl.mono fun _ _ _ h => rd_c (fun _ => .bl i) h
theorem e_non {j} : PE X (.Constant .none j pos) (rdE T (aC .non)) := pe_non.mono fun _ _ _ h => rd_c (fun _ => .non) h
theorem e_str {s : Str} {j} : PE X (.Constant (.str s) j pos) (rdE T (aC (.str s))) := pe_str.mono fun _ _ _ h => rd_c (fun _ => .str s) h
theorem e_bin {op : Operator} (ho : OpR X (binaryOp op) r) (hf : Bin2 T r f) (ha : PE X a (rdE T x)) (hb : PE X b (rdE T y)) : PE X (.BinOp a op b pos) (rdE T (aBin f x y)) :=
  (pe_op ho ha hb).mono fun _ _ _ h => rd_bin hf h
theorem e_un {op : UnaryOp} (ho : UnR X (unaryOp op) r1) (hf : Un1 T r1 f1) (ha : PE X a (rdE T x)) : PE X (.UnaryOp op a pos) (rdE T (aUn f1 x)) :=
  (pe_un ho ha).mono fun _ _ _ h => rd_un hf h
theorem e_cmp {op : CmpOp} (ho : OpR X (compareOp op) r) (hf : Bin2 T r f) (ha : PE X a (rdE T x)) (hb : PE X b (rdE T y)) (hm : behindInMarks op b = false) : PE X (.Compare a [op] [b] pos) (rdE T (aBin f x y)) :=
  (pe_cmpR ho ha hb hm).mono fun _ _ _ h => rd_bin hf h
end

/-! ### steps on values: ints -/
def dI (C : Int → Int → Prop) (g : Int → Int → D) : W → W → (W → Prop) → Prop := fun x y Q => match x, y with
  | .cl (.int i), .cl (.int j) => C i j ∧ Q (.cl (g i j))
  | _, _ => False
def dI0 (g : Int → Int → D) : W → W → (W → Prop) → Prop := fun x y Q => match x, y with
  | .cl (.int i), .cl (.int j) => Q (.cl (g i j))
  | _, _ => False
theorem dI_inv {C : Int → Int → Prop} {g : Int → Int → D} {x y : W} {Q : W → Prop} (h : dI C g x y Q) : ∃ i j, x = .cl (.int i) ∧ y = .cl (.int j) ∧ C i j ∧ Q (.cl (g i j)) := by
  unfold dI at h
  split at h
  · exact ⟨_, _, rfl, rfl, h⟩
  · exact h.elim
theorem dI0_inv {g : Int → Int → D} {x y : W} {Q : W → Prop} (h : dI0 g x y Q) : ∃ i j, x = .cl (.int i) ∧ y = .cl (.int j) ∧ Q (.cl (g i j)) := by
  unfold dI0 at h
  split at h
  · exact ⟨_, _, rfl, rfl, h⟩
  · exact h.elim
section
variable {T : Tb}
theorem bin_I0 {gV : Int → Int → V} {g : Int → Int → D} (hg : ∀ i j F, Rep T F (gV i j) (g i j)) : Bin2 T (rI0 gV) (dI0 g) := by
  intro G F H F' H' x y u w P Q go rx ry h k
  obtain ⟨i, j, rfl, rfl, q⟩ := dI0_inv h
  exact ⟨i, j, rep_int rx, rep_int ry, k _ q _ _ _ go (hg i j _)⟩
theorem bin_I {C C' : Int → Int → Prop} {gV : Int → Int → V} {g : Int → Int → D} (hc : ∀ i j, C i j → C' i j) (hg : ∀ i j F, C i j → Rep T F (gV i j) (g i j)) : Bin2 T (rI C' gV) (dI C g) := by
  intro G F H F' H' x y u w P Q go rx ry h k
  obtain ⟨i, j, rfl, rfl, c, q⟩ := dI_inv h
  exact ⟨i, j, rep_int rx, rep_int ry, hc i j c, k _ q _ _ _ go (hg i j _ c)⟩
end
/-- conditions as they are easily met -/
def CM (i j : Int) : Prop := (-(2 ^ 64) < i ∧ i < 2 ^ 64) ∨ (-(2 ^ 64) < j ∧ j < 2 ^ 64)
def dSub := dI0 fun i j => .int (i - j)
def dMulI := dI CM fun i j => .int (i * j)
def dDiv := dI (fun _ j => 0 < j ∧ j < 1073741824) fun i j => .int (i / j)
def dMod := dI (fun _ j => 0 < j) fun i j => .int (i % j)
def dShl := dI (fun i j => 0 ≤ j ∧ j ≤ 1000000 ∧ i.natAbs < 2 ^ 64) fun i j => .int (i * 2 ^ j.toNat)
def dPow := dI (fun i j => 0 ≤ j ∧ j ≤ 1000000 ∧ i.natAbs < 2 ^ 64) fun i j => .int (i ^ j.toNat)
def dLt := dI0 fun i j => .bl (decide (i < j))
def dLe := dI0 fun i j => .bl (decide (i ≤ j))
def dGt := dI0 fun i j => .bl (decide (j < i))
def dGe := dI0 fun i j => .bl (decide (j ≤ i))
section
variable {T : Tb}
theorem b_sub : Bin2 T (rI0 fun i j => .int (i - j)) dSub := bin_I0 fun _ _ _ => .int _
theorem b_mul : Bin2 T (rI CMul fun i j => .int (i * j)) dMulI := bin_I (fun _ _ h => h) fun _ _ _ _ => .int _
theorem b_div : Bin2 T (rI CDiv fun i j => .int (i / j)) dDiv := bin_I (fun _ _ h => h) fun _ _ _ _ => .int _
theorem b_mod : Bin2 T (rI (fun _ j => 0 < j) fun i j => .int (i % j)) dMod := bin_I (fun _ _ h => h) fun _ _ _ _ => .int _
theorem b_shl : Bin2 T (rI CPow fun i j => .int (i * 2 ^ j.toNat)) dShl := bin_I (fun _ _ h => h) fun _ _ _ _ => .int _
theorem b_pow : Bin2 T (rI CPow fun i j => .int (i ^ j.toNat)) dPow := bin_I (fun _ _ h => h) fun _ _ _ _ => .int _
theorem b_lt : Bin2 T (rI0 fun i j => .bl (decide (i < j))) dLt := bin_I0 fun _ _ _ => .bl _
theorem b_le : Bin2 T (rI0 fun i j => .bl (decide (i ≤ j))) dLe := bin_I0 fun _ _ _ => .bl _
theorem b_gt : Bin2 T (rI0 fun i j => .bl (decide (j < i))) dGt := bin_I0 fun _ _ _ => .bl _
theorem b_ge : Bin2 T (rI0 fun i j => .bl (decide (j ≤ i))) dGe := bin_I0 fun _ _ _ => .bl _
end
end Vl
namespace Vl
open PySem PySem.Spec PyProof.Rows L2

/-! ### equality of data -/
mutual
def pd : D → PyData
  | .non => .none
  | .bl b => .bool b
  | .int i => .int i
  | .str x => .str x
  | .tup ds => .tuple (pds ds)
  | .lst ds => .list (pds ds)
  | .ins _ _ => .dict []
  | .dct _ _ _ => .dict []
  | .scr _ => .dict []
  | .nd _ => .dict []
def pds : List D → List PyData
  | [] => []
  | d :: ds => pd d :: pds ds
end
def okD (d : D) : Bool := SeqAt.shaped (pd d)
def eqD (a b : D) : Bool := PyData.eqv (pd a) (pd b)
section
variable {T : Tb} {F H : Hp}
mutual
theorem Rep.dp : ∀ {d : D} {v : V}, Rep T H v d → (pd d).canLay0 = true → Dp T.K H v (pd d)
  | .non, _, .non, _ => .non
  | .bl _, _, .bl b, _ => .bl b
  | .int _, _, .int b, _ => .int b
  | .str _, _, .str b, _ => .str b
  | .tup ds, _, .tup h r, k => .tup (SqT.of h) (Reps.dp r (by simpa [pd, PyData.canLay0] using k))
  | .lst ds, _, .lst h r, k => .lst (SqL.of h) (Reps.dp r (by simpa [pd, PyData.canLay0] using k))
  | .ins _ _, _, _, k => by simp [pd, PyData.canLay0] at k
  | .dct _ _ _, _, _, k => by simp [pd, PyData.canLay0] at k
  | .scr _, _, _, k => by simp [pd, PyData.canLay0] at k
  | .nd _, _, _, k => by simp [pd, PyData.canLay0] at k
theorem Reps.dp : ∀ {ds : List D} {vs : List V}, Reps T H vs ds → PyData.canLayAll0 (pds ds) = true → DpAll T.K H vs (pds ds)
  | [], _, .nil, _ => .nil
  | d :: ds, _, .cons r t, k => by
    have k' : (pd d).canLay0 = true ∧ PyData.canLayAll0 (pds ds) = true := by simpa [pds, PyData.canLayAll0] using k
    exact .cons (Rep.dp r k'.1) (Reps.dp t k'.2)
end
theorem Rep.dpo {d : D} {v : V} (r : Rep T H v d) (k : okD d = true) : Dp T.K H v (pd d) := r.dp (SeqAt.canLay_of_shaped k)
end
def dEq : W → W → (W → Prop) → Prop := fun x y Q => okD x.toD = true ∧ okD y.toD = true ∧ Q (.cl (.bl (eqD x.toD y.toD)))
def dNe : W → W → (W → Prop) → Prop := fun x y Q => okD x.toD = true ∧ okD y.toD = true ∧ Q (.cl (.bl (!eqD x.toD y.toD)))
def refM : M → Bool
  | .cl _ => false
  | _ => true
def dIsN : W → W → (W → Prop) → Prop := fun x y Q => match x, y with
  | .cl .non, .cl .non => Q (.cl (.bl true))
  | .cl _, .cl .non => Q (.cl (.bl false))
  | .bw m, .cl .non => refM m = true ∧ Q (.cl (.bl false))
  | .ow m, .cl .non => refM m = true ∧ Q (.cl (.bl false))
  | .fr m, .cl .non => refM m = true ∧ Q (.cl (.bl false))
  | _, _ => False
def dNotN : W → W → (W → Prop) → Prop := fun x y Q => match x, y with
  | .cl .non, .cl .non => Q (.cl (.bl false))
  | .cl _, .cl .non => Q (.cl (.bl true))
  | .bw m, .cl .non => refM m = true ∧ Q (.cl (.bl true))
  | .ow m, .cl .non => refM m = true ∧ Q (.cl (.bl true))
  | .fr m, .cl .non => refM m = true ∧ Q (.cl (.bl true))
  | _, _ => False
/-- the items of a list that can be read, of a list or tuple -/
def itemsC : W → Option (List D)
  | .cl (.lst ds) => some ds
  | .bw (.fl ds) => some ds
  | .ow (.fl ds) => some ds
  | .fr (.fl ds) => some ds
  | _ => none
def seqC : W → Option (List D)
  | .cl (.lst ds) => some ds
  | .cl (.tup ds) => some ds
  | .cl (.scr ns) => some (ns.map .int)
  | .bw (.fl ds) => some ds
  | .ow (.fl ds) => some ds
  | .fr (.fl ds) => some ds
  | _ => none
/-- lists alone, the script too -/
def lstC : W → Option (List D)
  | .cl (.tup _) => none
  | w => seqC w
section
variable {T : Tb} {G : Gx} {F H Hs : Hp} {v : V} {w : W} {ds : List D} {p : Addr}
theorem RepW.items (e : Same F H) (h : RepW T G Hs F H v w) (k : itemsC w = some ds) : ∃ p vs, v = .ref p ∧ H p = some (.lst vs) ∧ Reps T F vs ds := by
  unfold itemsC at k
  split at k
  · cases k
    cases h with
    | lst q r => exact ⟨_, _, rfl, e _ _ q, r⟩
  · cases k
    obtain ⟨A, h, _⟩ := h
    obtain ⟨p, vs, rfl, _, q, _, r⟩ := own_fl h
    exact ⟨p, vs, rfl, q, r⟩
  · cases k
    obtain ⟨A, h⟩ := h
    obtain ⟨p, vs, rfl, _, q, _, r⟩ := own_fl h
    exact ⟨p, vs, rfl, q, r⟩
  · cases k
    obtain ⟨A, h, _⟩ := h
    obtain ⟨p, vs, rfl, _, q, _, r⟩ := own_fl h
    exact ⟨p, vs, rfl, q, r⟩
  · cases k
theorem RepW.seq (e : Same F H) (h : RepW T G Hs F H v w) (k : seqC w = some ds) : ∃ p vs, v = .ref p ∧ (SqL T.K H p vs ∨ SqT T.K H p vs) ∧ Reps T F vs ds := by
  unfold seqC at k
  split at k
  · cases k
    cases h with
    | lst q r => exact ⟨_, _, rfl, .inl (SqL.of (e _ _ q)), r⟩
  · cases k
    cases h with
    | tup q r => exact ⟨_, _, rfl, .inr (SqT.of (e _ _ q)), r⟩
  · cases k
    cases h with
    | scr q => exact ⟨_, _, rfl, .inl (Same.seq e q), reps_of_ints _⟩
  · cases k
    obtain ⟨A, h, _⟩ := h
    obtain ⟨p, vs, rfl, _, q, _, r⟩ := own_fl h
    exact ⟨p, vs, rfl, .inl (SqL.of q), r⟩
  · cases k
    obtain ⟨A, h⟩ := h
    obtain ⟨p, vs, rfl, _, q, _, r⟩ := own_fl h
    exact ⟨p, vs, rfl, .inl (SqL.of q), r⟩
  · cases k
    obtain ⟨A, h, _⟩ := h
    obtain ⟨p, vs, rfl, _, q, _, r⟩ := own_fl h
    exact ⟨p, vs, rfl, .inl (SqL.of q), r⟩
  · cases k
theorem RepW.lst (e : Same F H) (h : RepW T G Hs F H v w) (k : lstC w = some ds) : ∃ p vs, v = .ref p ∧ SqL T.K H p vs ∧ Reps T F vs ds := by
  unfold lstC at k
  split at k
  · cases k
  · rename_i hn
    unfold seqC at k
    split at k
    · cases k
      cases h with
      | lst q r => exact ⟨_, _, rfl, SqL.of (e _ _ q), r⟩
    · exact absurd rfl (hn _)
    · cases k
      cases h with
      | scr q => exact ⟨_, _, rfl, Same.seq e q, reps_of_ints _⟩
    · cases k
      obtain ⟨A, h, _⟩ := h
      obtain ⟨p, vs, rfl, _, q, _, r⟩ := own_fl h
      exact ⟨p, vs, rfl, SqL.of q, r⟩
    · cases k
      obtain ⟨A, h⟩ := h
      obtain ⟨p, vs, rfl, _, q, _, r⟩ := own_fl h
      exact ⟨p, vs, rfl, SqL.of q, r⟩
    · cases k
      obtain ⟨A, h, _⟩ := h
      obtain ⟨p, vs, rfl, _, q, _, r⟩ := own_fl h
      exact ⟨p, vs, rfl, SqL.of q, r⟩
    · cases k
/-- a new list as an answer -/
theorem new_list {G : Gx} {F0 H0 F' H' : Hp} {vs : List V} {P : W → Prop} {Q : VK} (g : Go F0 H0 F' H') (r : Reps T F' vs ds) (q : P (.fr (.fl ds)))
    (k : ∀ z, P z → ∀ v F2 H2, Go F0 H0 F2 H2 → RepW T G H0 F2 H2 v z → Q v H2) (hp : H' p = none) : Q (.ref p) (upd H' p (.lst vs)) :=
  k _ q _ F' _ (g.lay hp) ⟨[p], .fl upd_same (g.ex.free hp) r, fun a q => by rw [List.mem_singleton.mp q]; exact g.h.free hp⟩
theorem new_tup {G : Gx} {F0 H0 F' H' : Hp} {vs : List V} {P : W → Prop} {Q : VK} (g : Go F0 H0 F' H') (r : Reps T F' vs ds) (q : P (.cl (.tup ds)))
    (k : ∀ z, P z → ∀ v F2 H2, Go F0 H0 F2 H2 → RepW T G H0 F2 H2 v z → Q v H2) (hp : H' p = none) : Q (.ref p) (upd H' p (.tup vs)) :=
  k _ q _ _ _ (g.new hp) (.tup upd_same (r.mono (Same.updN (g.ex.free hp))))
end
def dSz (n : Nat) : Prop := n ≤ 1000000
theorem dSz_line {n : Nat} (h : n ≤ 1000000) : n ≤ sizeLine := Nat.le_trans h (by decide)
theorem dSz_lt {n : Nat} (h : n < 1000000) : n < sizeLine := Nat.lt_of_lt_of_le h (by decide)
def dAdd : W → W → (W → Prop) → Prop := fun x y Q => match x, y with
  | .cl (.int i), .cl (.int j) => Q (.cl (.int (i + j)))
  | .cl (.str i), .cl (.str j) => i.length + j.length ≤ 1000000 ∧ Q (.cl (.str (i ++ j)))
  | x, y => match itemsC x, itemsC y with
    | some a, some b => a.length + b.length ≤ 1000000 ∧ Q (.fr (.fl (a ++ b)))
    | _, _ => False
def dMul : W → W → (W → Prop) → Prop := fun x y Q => match x, y with
  | .cl (.int i), .cl (.int j) => CM i j ∧ Q (.cl (.int (i * j)))
  | x, y => match itemsC x, y with
    | some a, .cl (.int k) => (-1000000 ≤ k ∧ k ≤ 1000000 ∧ a.length * k.toNat ≤ 1000000) ∧ Q (.fr (.fl (List.replicate k.toNat a).flatten))
    | _, _ => False
/-- the item at a place, from the end too -/
def ixD {α : Type} (ds : List α) (i : Int) : Option α := if 0 ≤ i then ds[i.toNat]? else if 0 ≤ i + ds.length then ds[(i + ds.length).toNat]? else none
theorem ixD_atI {α : Type} {ds : List α} {i : Int} {d : α} (h : ixD ds i = some d) : atI ds i = some d := by
  unfold ixD at h
  unfold atI ixN
  by_cases h0 : 0 ≤ i
  · rw [if_pos h0] at h
    have hl : i < ds.length := by
      have := (List.getElem?_eq_some_iff.mp h).1
      omega
    simp only [h0, hl, if_true]
    exact h
  · rw [if_neg h0] at h
    by_cases h1 : 0 ≤ i + ds.length
    · rw [if_pos h1] at h
      have : -(ds.length : Int) ≤ i := by omega
      simp only [h0, this, if_true, if_false]
      exact h
    · rw [if_neg h1] at h; cases h
theorem ixD_place {α : Type} {ds : List α} {i : Int} {d : α} (h : ixD ds i = some d) : ∃ j, ixN ds.length i = some j ∧ ds[j]? = some d := by
  have q := ixD_atI h
  unfold atI at q
  cases e : ixN ds.length i with
  | none => rw [e] at q; cases q
  | some j => rw [e] at q; exact ⟨j, rfl, q⟩
theorem Reps.atI {T : Tb} {F : Hp} {vs : List V} {ds : List D} {i : Int} {d : D} (r : Reps T F vs ds) (h : ixD ds i = some d) : ∃ v, atI vs i = some v ∧ Rep T F v d := by
  obtain ⟨j, hj, hd⟩ := ixD_place h
  obtain ⟨v, hv, rv⟩ := r.getD hd
  refine ⟨v, ?_, rv⟩
  unfold L2.atI
  rw [r.length, hj]
  exact hv
def dIx : W → W → (W → Prop) → Prop := fun x y Q => match seqC x, y with
  | some ds, .cl (.int i) => match ixD ds i with
    | some d => Q (.cl d)
    | none => False
  | _, _ => False
/-- a dict by its keys -/
def lookD : List D → List D → D → Option D
  | k :: ks, d :: ds, x => if eqD k x then some d else lookD ks ds x
  | _, _, _ => none
def inD (x : D) (ds : List D) : Bool := ds.any fun y => eqD y x
def dIn (neg : Bool) : W → W → (W → Prop) → Prop := fun x y Q => match lstC y with
  | some ds => okD x.toD = true ∧ okD (.lst ds) = true ∧ Q (.cl (.bl (if neg then !inD x.toD ds else inD x.toD ds)))
  | none => False
section
variable {T : Tb} {X : Cx}
theorem dAdd_inv {x y : W} {Q : W → Prop} (h : dAdd x y Q) : (∃ i j, x = .cl (.int i) ∧ y = .cl (.int j) ∧ Q (.cl (.int (i + j)))) ∨
    (∃ i j, x = .cl (.str i) ∧ y = .cl (.str j) ∧ i.length + j.length ≤ 1000000 ∧ Q (.cl (.str (i ++ j)))) ∨
    (∃ a b, itemsC x = some a ∧ itemsC y = some b ∧ a.length + b.length ≤ 1000000 ∧ Q (.fr (.fl (a ++ b)))) := by
  unfold dAdd at h
  split at h
  · exact .inl ⟨_, _, rfl, rfl, h⟩
  · exact .inr (.inl ⟨_, _, rfl, rfl, h⟩)
  · split at h
    · exact .inr (.inr ⟨_, _, by assumption, by assumption, h⟩)
    · exact h.elim
def rAddAll : R2 := fun x y H Q => (rI0 fun i j => .int (i + j)) x y H Q ∨ (∃ i j, x = .str i ∧ y = .str j ∧ i.length + j.length ≤ sizeLine ∧ Q (.str (i ++ j)) H) ∨ rCat x y H Q
theorem op_addAll : OpR X (binaryOp .Add) rAddAll := op_add.or (op_add_str.or op_cat)
theorem b_add : Bin2 T rAddAll dAdd := by
  intro G F H F' H' x y u w P Q go rx ry h k
  rcases dAdd_inv h with ⟨i, j, rfl, rfl, q⟩ | ⟨i, j, rfl, rfl, l, q⟩ | ⟨a, b, ea, eb, l, q⟩
  · exact .inl ⟨i, j, rep_int rx, rep_int ry, k _ q _ _ _ go (.int _)⟩
  · exact .inr (.inl ⟨i, j, rep_str rx, rep_str ry, dSz_line l, k _ q _ _ _ go (.str _)⟩)
  · obtain ⟨p1, vs, rfl, h1, r1⟩ := rx.items go.ex ea
    obtain ⟨p2, ws, rfl, h2, r2⟩ := ry.items go.ex eb
    refine .inr (.inr ⟨p1, p2, vs, ws, rfl, rfl, h1, h2, by rw [r1.length, r2.length]; exact dSz_line l, fun p hp => ?_⟩)
    exact new_list go (r1.append r2) q k hp
theorem dMul_inv {x y : W} {Q : W → Prop} (h : dMul x y Q) : (∃ i j, x = .cl (.int i) ∧ y = .cl (.int j) ∧ CM i j ∧ Q (.cl (.int (i * j)))) ∨
    (∃ a k, itemsC x = some a ∧ y = .cl (.int k) ∧ (-1000000 ≤ k ∧ k ≤ 1000000 ∧ a.length * k.toNat ≤ 1000000) ∧ Q (.fr (.fl (List.replicate k.toNat a).flatten))) := by
  unfold dMul at h
  split at h
  · exact .inl ⟨_, _, rfl, rfl, h⟩
  · split at h
    · exact .inr ⟨_, _, by assumption, rfl, h⟩
    · exact h.elim
def rMulAll : R2 := fun x y H Q => (rI CMul fun i j => .int (i * j)) x y H Q ∨ rRep x y H Q
theorem op_mulAll : OpR X (binaryOp .Mult) rMulAll := op_mul.or op_rep
theorem b_mulAll : Bin2 T rMulAll dMul := by
  intro G F H F' H' x y u w P Q go rx ry h k
  rcases dMul_inv h with ⟨i, j, rfl, rfl, c, q⟩ | ⟨a, n, ea, rfl, l, q⟩
  · exact .inl ⟨i, j, rep_int rx, rep_int ry, c, k _ q _ _ _ go (.int _)⟩
  · obtain ⟨p1, vs, rfl, h1, r1⟩ := rx.items go.ex ea
    refine .inr ⟨p1, n, vs, rfl, rep_int ry, h1, by omega, by omega, by rw [r1.length]; exact dSz_line l.2.2, fun p hp => ?_⟩
    exact new_list go (r1.replicate n.toNat) q k hp
theorem b_eq : Bin2 T (rEqD T.K) dEq := by
  intro G F H F' H' x y u w P Q go rx ry h k
  obtain ⟨o1, o2, q⟩ := h
  exact ⟨_, _, (rx.rep go.ex).dpo o1, (ry.rep go.ex).dpo o2, o1, o2, k _ q _ _ _ go (.bl _)⟩
theorem b_ne : Bin2 T (rNeD T.K) dNe := by
  intro G F H F' H' x y u w P Q go rx ry h k
  obtain ⟨o1, o2, q⟩ := h
  exact ⟨_, _, (rx.rep go.ex).dpo o1, (ry.rep go.ex).dpo o2, o1, o2, k _ q _ _ _ go (.bl _)⟩
def rIsN : R2 := fun x y H Q => y = .non ∧ Q (.bl (decide (x = .non))) H
def rNotN : R2 := fun x y H Q => y = .non ∧ Q (.bl (!decide (x = .non))) H
theorem op_isN1 : OpR X (compareOp .Is) rIsN := op_isN
theorem op_notN1 : OpR X (compareOp .IsNot) rNotN := op_notN
theorem own_ref {F H : Hp} {v : V} {m : M} {A : List Addr} (h : Own T F H v m A) (hm : refM m = true) : ∃ p, v = .ref p := by
  cases h with
  | cl r => cases hm
  | fl h f r => exact ⟨_, rfl⟩
  | fd h f d r => exact ⟨_, rfl⟩
  | tl h f x r => exact ⟨_, rfl⟩
  | td h f d x r => exact ⟨_, rfl⟩
  | ti h f d x r => exact ⟨_, rfl⟩
  | tp h x r => exact ⟨_, rfl⟩
  | nd q h f r => exact ⟨_, rfl⟩
theorem rep_nnon {F : Hp} {v : V} {d : D} (h : Rep T F v d) (hd : d ≠ .non) : v ≠ .non := by
  intro e; subst e; cases h; exact hd rfl
theorem isN_inv {x y : W} {Q : W → Prop} (h : dIsN x y Q) {G : Gx} {Hs F H : Hp} {v : V} (r : RepW T G Hs F H v x) : y = .cl .non ∧ Q (.cl (.bl (decide (v = .non)))) := by
  unfold dIsN at h
  split at h
  · cases rep_non r; exact ⟨rfl, h⟩
  · rename_i d hd; rw [decide_eq_false (rep_nnon r fun e => hd (by rw [e]))]; exact ⟨rfl, h⟩
  · obtain ⟨A, o, _⟩ := r; obtain ⟨p, rfl⟩ := own_ref o h.1; exact ⟨rfl, h.2⟩
  · obtain ⟨A, o⟩ := r; obtain ⟨p, rfl⟩ := own_ref o h.1; exact ⟨rfl, h.2⟩
  · obtain ⟨A, o, _⟩ := r; obtain ⟨p, rfl⟩ := own_ref o h.1; exact ⟨rfl, h.2⟩
  · exact h.elim
theorem notN_inv {x y : W} {Q : W → Prop} (h : dNotN x y Q) {G : Gx} {Hs F H : Hp} {v : V} (r : RepW T G Hs F H v x) : y = .cl .non ∧ Q (.cl (.bl (!decide (v = .non)))) := by
  unfold dNotN at h
  split at h
  · cases rep_non r; exact ⟨rfl, h⟩
  · rename_i d hd; rw [decide_eq_false (rep_nnon r fun e => hd (by rw [e]))]; exact ⟨rfl, h⟩
  · obtain ⟨A, o, _⟩ := r; obtain ⟨p, rfl⟩ := own_ref o h.1; exact ⟨rfl, h.2⟩
  · obtain ⟨A, o⟩ := r; obtain ⟨p, rfl⟩ := own_ref o h.1; exact ⟨rfl, h.2⟩
  · obtain ⟨A, o, _⟩ := r; obtain ⟨p, rfl⟩ := own_ref o h.1; exact ⟨rfl, h.2⟩
  · exact h.elim
theorem b_isN : Bin2 T rIsN dIsN := by
  intro G F H F' H' x y u w P Q go rx ry h k
  obtain ⟨e, q⟩ := isN_inv h rx
  subst e
  exact ⟨rep_non ry, k _ q _ _ _ go (.bl _)⟩
theorem b_notN : Bin2 T rNotN dNotN := by
  intro G F H F' H' x y u w P Q go rx ry h k
  obtain ⟨e, q⟩ := notN_inv h rx
  subst e
  exact ⟨rep_non ry, k _ q _ _ _ go (.bl _)⟩
theorem b_ix : Bin2 T (rIx T.K) dIx := by
  intro G F H F' H' x y u w P Q go rx ry h k
  unfold dIx at h
  split at h
  · rename_i ds i es
    split at h
    · rename_i d ed
      obtain ⟨p, vs, rfl, hs, r⟩ := rx.seq go.ex es
      obtain ⟨v, hv, rv⟩ := r.atI ed
      have qv := k _ h v _ _ go rv
      rcases hs with hs | hs
      · exact .inl ⟨p, vs, i, v, rfl, rep_int ry, hs, hv, qv⟩
      · exact .inr (.inl ⟨p, vs, i, v, rfl, rep_int ry, hs, hv, qv⟩)
    · exact h.elim
  · exact h.elim
/-- in a list (items of any depth); in a tuple of flat things -/
theorem pd_in (x : D) : ∀ ds : List D, ((pds ds).any fun z => PyData.eqv z (pd x)) = inD x ds
  | [] => rfl
  | d :: ds => by
    show (PyData.eqv (pd d) (pd x) || (pds ds).any fun z => PyData.eqv z (pd x)) = (eqD d x || inD x ds)
    rw [pd_in x ds]
    rfl
theorem b_in : Bin2 T (rInD T.K) (dIn false) := by
  intro G F H F' H' x y u w P Q go rx ry h k
  unfold dIn at h
  split at h
  · rename_i ds es
    obtain ⟨o1, o2, q⟩ := h
    obtain ⟨p, vs, rfl, hs, r⟩ := ry.lst go.ex es
    have o3 : PyData.canLayAll0 (pds ds) = true := by simpa [pd, PyData.canLay0] using SeqAt.canLay_of_shaped o2
    refine ⟨_, _, (rx.rep go.ex).dpo o1, .lst hs ((r.mono go.ex).dp o3), o1, o2, ?_⟩
    rw [pd_in]
    exact k _ q _ _ _ go (.bl _)
  · exact h.elim
theorem b_notIn : Bin2 T (rNotInD T.K) (dIn true) := by
  intro G F H F' H' x y u w P Q go rx ry h k
  unfold dIn at h
  split at h
  · rename_i ds es
    obtain ⟨o1, o2, q⟩ := h
    obtain ⟨p, vs, rfl, hs, r⟩ := ry.lst go.ex es
    have o3 : PyData.canLayAll0 (pds ds) = true := by simpa [pd, PyData.canLay0] using SeqAt.canLay_of_shaped o2
    refine ⟨_, _, (rx.rep go.ex).dpo o1, .lst hs ((r.mono go.ex).dp o3), o1, o2, ?_⟩
    rw [pd_in]
    exact k _ q _ _ _ go (.bl _)
  · exact h.elim
end
end Vl
namespace Vl
open PySem PySem.Spec PyProof.Rows L2

/-! ### arguments, displays -/
def aNil : AA := fun _ Q => Q []
def aCons (e : AE) (es : AA) : AA := fun δ Q => e δ fun w => es δ fun ws => Q (argW w :: ws)
def clDs : List W → Option (List D)
  | [] => some []
  | .cl d :: ws => (clDs ws).map (d :: ·)
  | _ :: _ => none
def aTup (es : AA) : AE := fun δ Q => es δ fun ws => match clDs ws with
  | some ds => ds.length ≤ 1000000 ∧ Q (.cl (.tup ds))
  | none => False
def aLst (es : AA) : AE := fun δ Q => es δ fun ws => match clDs ws with
  | some ds => ds.length ≤ 1000000 ∧ Q (.fr (.fl ds))
  | none => False
/-- a call by values -/
def aCB (f : List W → (W → Prop) → Prop) (es : AA) : AE := fun δ Q => es δ fun ws => f ws Q
def CallV (T : Tb) (r : List V → Hp → VK → Prop) (f : List W → (W → Prop) → Prop) : Prop := ∀ (G : Gx) (F H F' H' : Hp) (xs : List V) (ws : List W) (P : W → Prop) (Q : VK), Go F H F' H' → RepAs T G F' H' xs ws → f ws P →
  (∀ z, P z → ∀ v F2 H2, Go F H F2 H2 → RepW T G H F2 H2 v z → Q v H2) → r xs H' Q
section
variable {T : Tb} {X : Cx} {e : Expr} {es : List Expr} {x : AE} {xs : AA} {pos p : Pos} {G : Gx} {F H : Hp}
theorem reps_cl : ∀ {vs : List V} {ws : List W} {ds : List D}, RepAs T G F H vs ws → clDs ws = some ds → Reps T F vs ds
  | _, _, _, .nil, h => by cases h; exact .nil
  | _, .cl d :: ws, _, .cons r t, h => by
    unfold clDs at h
    cases q : clDs ws with
    | none => rw [q] at h; cases h
    | some es => rw [q] at h; cases h; exact .cons r (reps_cl t q)
  | _, .bw _ :: ws, _, .cons r t, h => by cases h
  | _, .ow _ :: ws, _, .cons r t, h => by cases h
  | _, .fr _ :: ws, _, .cons r t, h => by cases h
theorem a_nil : PA X [] (rdA T aNil) := pa_nil.mono fun σ H Q h => by
  obtain ⟨G, F, δ, P, R, h, k⟩ := h
  exact k _ h [] F H (Go.refl R.ex) .nil
theorem a_cons (ha : PE X e (rdE T x)) (hr : PA X es (rdA T xs)) (hs : starEach (e :: es) X.env = (false, eval e X.env) :: starEach es X.env := by rfl) : PA X (e :: es) (rdA T (aCons x xs)) :=
  (pa_cons ha hr hs).mono fun σ H Q h => by
    obtain ⟨G, F, δ, P, R, h, k⟩ := h
    refine ⟨G, F, δ, _, R, h, fun w hw v F1 H1 g r => ?_⟩
    obtain ⟨F2, g2, _, _, r2, _⟩ := RepW.arg g r
    refine ⟨G, F2, δ, _, R.go g2, hw, fun ws hws vs F3 H3 g3 r3 => ?_⟩
    exact k _ hws (v :: vs) F3 H3 (g2.trans g3) (.cons (r2.toA.go g3) r3)
theorem e_tup {x1} (h : PA X es (rdA T xs)) : PE X (.Tuple es x1 pos) (rdE T (aTup xs)) := (pe_tup h).mono fun σ H Q h => by
  obtain ⟨G, F, δ, P, R, h, k⟩ := h
  refine ⟨G, F, δ, _, R, h, fun ws hw vs F1 H1 g r => ?_⟩
  split at hw
  · rename_i ds hd
    obtain ⟨l, q⟩ := hw
    have rr := reps_cl r hd
    exact ⟨by rw [rr.length]; exact dSz_line l, fun p hp => new_tup g rr q k hp⟩
  · exact hw.elim
theorem e_lst (h : PA X es (rdA T xs)) : PE X (.List es pos) (rdE T (aLst xs)) := (pe_lst h).mono fun σ H Q h => by
  obtain ⟨G, F, δ, P, R, h, k⟩ := h
  refine ⟨G, F, δ, _, R, h, fun ws hw vs F1 H1 g r => ?_⟩
  split at hw
  · rename_i ds hd
    obtain ⟨l, q⟩ := hw
    have rr := reps_cl r hd
    exact ⟨by rw [rr.length]; exact dSz_line l, fun p hp => new_list g rr q k hp⟩
  · exact hw.elim
theorem rd_cb {r : List V → Hp → VK → Prop} {f : List W → (W → Prop) → Prop} (hf : CallV T r f) {σ : L2.St} {H : Hp} {Q : VK} (h : rdE T (aCB f xs) σ H Q) : tCB r (rdA T xs) σ H Q := by
  obtain ⟨G, F, δ, P, R, h, k⟩ := h
  exact ⟨G, F, δ, _, R, h, fun ws hw vs F1 H1 g r => hf G F H F1 H1 vs ws P Q g r hw k⟩
theorem e_cb {r : List V → Hp → VK → Prop} {f : List W → (W → Prop) → Prop} {s : Str} {id : String} (hc : CallR X (.builtin id) r) (hf : CallV T r f) (hg : Gl X s) (hm : X.mg s = none) (hv : bootBuiltins s = some (.builtin id)) (ha : PA X (e :: es) (rdA T xs)) (hn : s ≠ "__name__" := by decide) (hdb : (s == ("__debug__" : Str)) = false := by decide)
    (he : starEach (e :: es) X.env = (false, eval e X.env) :: starEach es X.env := by rfl) (hpl : (backTo pos (starEach es X.env)).any (·.1) = false := by rfl) : PE X (.Call (.Name s p) (e :: es) [] pos) (rdE T (aCB f xs)) :=
  (pe_callB hc hg hm hv ha hn hdb he hpl).mono fun _ _ _ h => rd_cb hf h
theorem e_cty {r : List V → Hp → VK → Prop} {f : List W → (W → Prop) → Prop} {s : Str} {id : String} (hc : CallR X (.type id) r) (hf : CallV T r f) (hg : Gl X s) (hm : X.mg s = none) (hv : bootBuiltins s = some (.type id)) (ha : PA X (e :: es) (rdA T xs)) (hn : s ≠ "__name__" := by decide) (hdb : (s == ("__debug__" : Str)) = false := by decide)
    (he : starEach (e :: es) X.env = (false, eval e X.env) :: starEach es X.env := by rfl) (hpl : (backTo pos (starEach es X.env)).any (·.1) = false := by rfl) : PE X (.Call (.Name s p) (e :: es) [] pos) (rdE T (aCB f xs)) :=
  (pe_callTy hc hg hm hv ha hn hdb he hpl).mono fun _ _ _ h => rd_cb hf h
theorem e_cbf {r : List V → Hp → VK → Prop} {f : List W → (W → Prop) → Prop} {s : Str} {id : String} (hc : CallR X (.builtin id) r) (hf : CallV T r f) (hg : Gl X s) (hm : X.mg s = some (.builtin id)) (ha : PA X (e :: es) (rdA T xs)) (hdb : (s == ("__debug__" : Str)) = false := by decide)
    (he : starEach (e :: es) X.env = (false, eval e X.env) :: starEach es X.env := by rfl) (hpl : (backTo pos (starEach es X.env)).any (·.1) = false := by rfl) : PE X (.Call (.Name s p) (e :: es) [] pos) (rdE T (aCB f xs)) :=
  (pe_callBfun hc hg hm ha hdb he hpl).mono fun _ _ _ h => rd_cb hf h
end

/-! ### built-ins by value -/
def one {α : Type} (f : W → α → Prop) : List W → α → Prop := fun ws Q => match ws with
  | [w] => f w Q
  | _ => False
def two {α : Type} (f : W → W → α → Prop) : List W → α → Prop := fun ws Q => match ws with
  | [w, u] => f w u Q
  | _ => False
def fLen : List W → (W → Prop) → Prop := one fun w Q => match w with
  | .cl (.str z) => z.length ≤ 1000000 ∧ Q (.cl (.int z.length))
  | .cl (.dct _ ks _) => Q (.cl (.int ks.length))
  | .bw (.fd _ ks _) => Q (.cl (.int ks.length))
  | .ow (.fd _ ks _) => Q (.cl (.int ks.length))
  | w => match seqC w with
    | some ds => Q (.cl (.int ds.length))
    | none => False
/-- len of lists, tuples, texts -/
def fLen1 : List W → (W → Prop) → Prop := one fun w Q => match w with
  | .cl (.str z) => z.length ≤ 1000000 ∧ Q (.cl (.int z.length))
  | w => match seqC w with
    | some ds => Q (.cl (.int ds.length))
    | none => False
def fInt : List W → (W → Prop) → Prop := one fun w Q => match w with
  | .cl (.int i) => Q (.cl (.int i))
  | .cl (.bl b) => Q (.cl (.int (if b then 1 else 0)))
  | _ => False
def fAbs : List W → (W → Prop) → Prop := one fun w Q => match w with
  | .cl (.int i) => Q (.cl (.int (if i < 0 then -i else i)))
  | _ => False
def fMax2 : List W → (W → Prop) → Prop := two fun w u Q => match w, u with
  | .cl (.int i), .cl (.int j) => Q (.cl (.int (if j > i then j else i)))
  | _, _ => False
def fMin2 : List W → (W → Prop) → Prop := two fun w u Q => match w, u with
  | .cl (.int i), .cl (.int j) => Q (.cl (.int (if j < i then j else i)))
  | _, _ => False
def fGcd : List W → (W → Prop) → Prop := two fun w u Q => match w, u with
  | .cl (.int i), .cl (.int j) => Q (.cl (.int ((Nat.gcd i.natAbs j.natAbs : Nat) : Int)))
  | _, _ => False
def fList : List W → (W → Prop) → Prop := one fun w Q => match seqC w with
  | some ds => Q (.fr (.fl ds))
  | none => False
section
variable {T : Tb} {X : Cx} {G : Gx} {F H : Hp}
theorem one_inv {α : Type} {f : W → α → Prop} {ws : List W} {Q : α} {xs : List V} (h : one f ws Q) (r : RepAs T G F H xs ws) : ∃ x w, xs = [x] ∧ ws = [w] ∧ RepW T G H F H x w ∧ f w Q := by
  unfold one at h
  split at h
  · rename_i w
    cases r with
    | cons r t => cases t; exact ⟨_, w, rfl, rfl, r.toW, h⟩
  · exact h.elim
theorem two_inv {α : Type} {f : W → W → α → Prop} {ws : List W} {Q : α} {xs : List V} (h : two f ws Q) (r : RepAs T G F H xs ws) : ∃ x y w u, xs = [x, y] ∧ ws = [w, u] ∧ RepW T G H F H x w ∧ RepW T G H F H y u ∧ f w u Q := by
  unfold two at h
  split at h
  · rename_i w u
    cases r with
    | cons r t => cases t with
      | cons r2 t => cases t; exact ⟨_, _, w, u, rfl, rfl, r.toW, r2.toW, h⟩
  · exact h.elim
def rLenAll (K : PySem.W.Frag) : List V → Hp → VK → Prop := fun xs H Q => (∃ z, xs = [.str z] ∧ z.length ≤ sizeLine ∧ Q (.int z.length) H) ∨ ∃ p ys, xs = [.ref p] ∧ (SqL K H p ys ∨ SqT K H p ys) ∧ Q (.int ys.length) H
theorem call_lenAll : CallR X (.builtin "len") (rLenAll X.K) := call_len_str.or call_len_seq
theorem c_len : CallV T (rLenAll T.K) fLen1 := by
  intro G F H F' H' xs ws P Q g r h k
  obtain ⟨x, w, rfl, rfl, rx, h⟩ := one_inv h r
  split at h
  · exact .inl ⟨_, by rw [rep_str rx], dSz_line h.1, k _ h.2 _ _ _ g (.int _)⟩
  · split at h
    · rename_i ds es
      obtain ⟨p, vs, rfl, hs, rr⟩ := rx.seq g.ex es
      refine .inr ⟨p, vs, rfl, hs, ?_⟩
      rw [rr.length]
      exact k _ h _ _ _ g (.int _)
    · exact h.elim
theorem c_int : CallV T (fun xs H Q => (∃ i, xs = [.int i] ∧ Q (.int i) H) ∨ ∃ k, xs = [.bl k] ∧ Q (.int (if k then 1 else 0)) H) fInt := by
  intro G F H F' H' xs ws P Q g r h k
  obtain ⟨x, w, rfl, rfl, rx, h⟩ := one_inv h r
  split at h
  · exact .inl ⟨_, by rw [rep_int rx], k _ h _ _ _ g (.int _)⟩
  · exact .inr ⟨_, by rw [rep_bl rx], k _ h _ _ _ g (.int _)⟩
  · exact h.elim
theorem c_abs : CallV T (fun xs H Q => ∃ i, xs = [.int i] ∧ Q (.int (if i < 0 then -i else i)) H) fAbs := by
  intro G F H F' H' xs ws P Q g r h k
  obtain ⟨x, w, rfl, rfl, rx, h⟩ := one_inv h r
  split at h
  · exact ⟨_, by rw [rep_int rx], k _ h _ _ _ g (.int _)⟩
  · exact h.elim
theorem c_max2 : CallV T (fun xs H Q => ∃ i j, xs = [.int i, .int j] ∧ Q (.int (if j > i then j else i)) H) fMax2 := by
  intro G F H F' H' xs ws P Q g r h k
  obtain ⟨x, y, w, u, rfl, rfl, rx, ry, h⟩ := two_inv h r
  split at h
  · exact ⟨_, _, by rw [rep_int rx, rep_int ry], k _ h _ _ _ g (.int _)⟩
  · exact h.elim
theorem c_min2 : CallV T (fun xs H Q => ∃ i j, xs = [.int i, .int j] ∧ Q (.int (if j < i then j else i)) H) fMin2 := by
  intro G F H F' H' xs ws P Q g r h k
  obtain ⟨x, y, w, u, rfl, rfl, rx, ry, h⟩ := two_inv h r
  split at h
  · exact ⟨_, _, by rw [rep_int rx, rep_int ry], k _ h _ _ _ g (.int _)⟩
  · exact h.elim
theorem c_gcd : CallV T rGcd fGcd := by
  intro G F H F' H' xs ws P Q g r h k
  obtain ⟨x, y, w, u, rfl, rfl, rx, ry, h⟩ := two_inv h r
  split at h
  · exact ⟨_, _, by rw [rep_int rx, rep_int ry], k _ h _ _ _ g (.int _)⟩
  · exact h.elim
theorem c_list : CallV T (fun xs H Q => ∃ p ys, xs = [.ref p] ∧ (SqL T.K H p ys ∨ SqT T.K H p ys) ∧ ∀ l, H l = none → Q (.ref l) (upd H l (.lst ys))) fList := by
  intro G F H F' H' xs ws P Q g r h k
  obtain ⟨x, w, rfl, rfl, rx, h⟩ := one_inv h r
  split at h
  · rename_i ds es
    obtain ⟨p, vs, rfl, hs, rr⟩ := rx.seq g.ex es
    exact ⟨p, vs, rfl, hs, fun l hl => new_list g rr h k hl⟩
  · exact h.elim
end

/-! ### isinstance(x, T), T a built-in class -/
def tyN : D → Option String
  | .non => some "NoneType"
  | .bl _ => some "bool"
  | .int _ => some "int"
  | .str _ => some "str"
  | .tup _ => some "tuple"
  | .lst _ => some "list"
  | .dct _ _ _ => some "dict"
  | _ => none
def isiT : List (String × String × Bool) := [("NoneType", "bool", false), ("NoneType", "int", false), ("NoneType", "list", false), ("NoneType", "tuple", false), ("NoneType", "str", false),
  ("bool", "bool", true), ("bool", "int", true), ("bool", "list", false), ("bool", "tuple", false), ("bool", "str", false),
  ("int", "bool", false), ("int", "int", true), ("int", "list", false), ("int", "tuple", false), ("int", "str", false),
  ("str", "bool", false), ("str", "int", false), ("str", "list", false), ("str", "tuple", false), ("str", "str", true),
  ("tuple", "bool", false), ("tuple", "int", false), ("tuple", "list", false), ("tuple", "tuple", true), ("tuple", "str", false),
  ("list", "bool", false), ("list", "int", false), ("list", "list", true), ("list", "tuple", false), ("list", "str", false)]
theorem isiT_ok : ∀ p ∈ isiT, kitB p.1 p.2.1 = some p.2.2 := by decide +kernel
def isiF (d : D) (t : String) : Option Bool := (tyN d).bind fun n => (isiT.find? fun p => p.1 == n && p.2.1 == t).map (·.2.2)
theorem isiF_inv {d : D} {t : String} {b : Bool} (h : isiF d t = some b) : ∃ n, tyN d = some n ∧ (n, t, b) ∈ isiT := by
  unfold isiF at h
  cases e : tyN d with
  | none => rw [e] at h; cases h
  | some n =>
    rw [e] at h
    have h : (isiT.find? fun p => p.1 == n && p.2.1 == t).map (·.2.2) = some b := h
    cases e2 : isiT.find? fun p => p.1 == n && p.2.1 == t with
    | none => rw [e2] at h; cases h
    | some p =>
      rw [e2] at h
      have h : some p.2.2 = some b := h
      cases h
      have h1 := List.find?_some e2
      have h2 := List.mem_of_find?_eq_some e2
      simp only [Bool.and_eq_true, beq_iff_eq] at h1
      refine ⟨n, rfl, ?_⟩
      obtain ⟨p1, p2, p3⟩ := p
      obtain ⟨rfl, rfl⟩ := h1
      exact h2
def aIsi (t : String) (a : AE) : AE := fun δ Q => a δ fun w => match isiF w.toD t with
  | some b => Q (.cl (.bl b))
  | none => False
section
variable {T : Tb} {X : Cx} {G : Gx} {F H : Hp}
theorem dct_ty {t : Bool} {o : HO} {ks : List (List Key)} {vs : List V} {a : Addr} (d : DctO t o ks vs) (q : H a = some o) : TyX T.K H (.ref a) (.type "dict") := by
  cases t with
  | false => obtain ⟨_, kvs, rfl, _⟩ := d; exact .base (.dK q)
  | true => obtain ⟨_, kvs, rfl, _⟩ := d; exact .base (.dT q)
theorem rep_ty {v : V} {d : D} {n : String} (r : Rep T H v d) (h : tyN d = some n) : TyX T.K H v (.type n) := by
  cases r with
  | non => cases h; exact .base .non
  | bl b => cases h; exact .base (.bl b)
  | int b => cases h; exact .base (.int b)
  | str b => cases h; exact .base (.str b)
  | tup q _ => cases h; exact .base (.tup q)
  | lst q _ => cases h; exact .base (.lst q)
  | dct q d _ => cases h; exact dct_ty d q
  | ins _ _ _ => cases h
  | nd _ _ _ => cases h
  | scr _ => cases h
theorem e_isi {e : Expr} {x : AE} {t : String} {s : Str} {p p2 pos : Pos} (hm : X.mg "isinstance" = none) (hg : Gl X "isinstance") (hg2 : Gl X s) (hm2 : X.mg s = none) (hv2 : bootBuiltins s = some (.type t)) (ha : PE X e (rdE T x)) (hTK : T.K = X.K)
    (hn : s ≠ "__name__" := by decide) (hd : (s == ("__debug__" : Str)) = false := by decide)
    (hs1 : starEach [e, .Name s p2] X.env = (false, eval e X.env) :: starEach [.Name s p2] X.env := by rfl) (hs2 : starEach [.Name s p2] X.env = (false, eval (.Name s p2) X.env) :: starEach [] X.env := by rfl) (hpl : (backTo pos (starEach [.Name s p2] X.env)).any (·.1) = false := by rfl) :
    PE X (.Call (.Name "isinstance" p) [e, .Name s p2] [] pos) (rdE T (aIsi t x)) := by
  refine (pe_callB call_isi hg hm (by decide +kernel) (pa_cons ha (pa_cons (pe_bltn (v := .ty t) hg2 hm2 hv2 rfl hn hd) pa_nil hs2) hs1) (by decide) (by decide) hs1 hpl).mono fun σ H Q h => ?_
  obtain ⟨G, F, δ, P, R, h, k⟩ := h
  refine ⟨G, F, δ, _, R, h, fun w hw v F1 H1 g r => ?_⟩
  split at hw
  · rename_i b hb0
    obtain ⟨n, hn, hb⟩ := isiF_inv hb0
    have q := hw
    refine ⟨v, .ty t, .type n, .type t, b, rfl, .ty t, ?_, kit_ty (isiT_ok _ hb), k _ q _ _ _ g (.bl b)⟩
    rw [← hTK]
    exact rep_ty (r.rep g.ex) hn
  · exact hw.elim
end

/-! ### and, or, not, if: values and tests -/
def aAndV (a b : AE) : AE := fun δ Q => a δ fun w => match w with
  | .cl (.bl true) => b δ Q
  | .cl (.bl false) => Q (.cl (.bl false))
  | _ => False
def aOrV (a b : AE) : AE := fun δ Q => a δ fun w => match w with
  | .cl (.bl true) => Q (.cl (.bl true))
  | .cl (.bl false) => b δ Q
  | _ => False
def dNot : W → (W → Prop) → Prop := fun w Q => match w with
  | .cl (.bl b) => Q (.cl (.bl (!b)))
  | _ => False
def aB (a : AE) : AT := fun δ Q => a δ fun w => match w with
  | .cl (.bl b) => Q b
  | _ => False
def aAnd (a b : AT) : AT := fun δ Q => a δ fun c => if c = true then b δ Q else Q false
def aOr (a b : AT) : AT := fun δ Q => a δ fun c => if c = true then Q true else b δ Q
def aNot (a : AT) : AT := fun δ Q => a δ fun c => Q (!c)
def aIfE (t : AT) (a b : AE) : AE := fun δ Q => t δ fun c => if c = true then a δ Q else b δ Q
section
variable {T : Tb} {X : Cx} {a b c : Expr} {x y : AE} {t u : AT} {pos : Pos} {rest : List Expr}
theorem e_one {op} (h : PE X a (rdE T x)) : PE X (.BoolOp op [a] pos) (rdE T x) := pe_one h
theorem e_and (ha : PE X a (rdE T x)) (hb : PE X (.BoolOp .And (b :: rest) pos) (rdE T y)) : PE X (.BoolOp .And (a :: b :: rest) pos) (rdE T (aAndV x y)) := (pe_and ha hb).mono fun σ H Q h => by
  obtain ⟨G, F, δ, P, R, h, k⟩ := h
  refine ⟨G, F, δ, _, R, h, fun w hw v F1 H1 g r => ?_⟩
  split at hw
  · refine ⟨true, rep_bl r, ?_⟩
    rw [if_pos rfl]
    exact ⟨G, F1, δ, P, R.go g, hw, fun z hz v F2 H2 g2 r2 => k z hz v F2 H2 (g.trans g2) (r2.back g.h)⟩
  · refine ⟨false, rep_bl r, ?_⟩
    rw [if_neg Bool.false_ne_true]
    exact k _ hw _ _ _ g (.bl _)
  · exact hw.elim
theorem e_or (ha : PE X a (rdE T x)) (hb : PE X (.BoolOp .Or (b :: rest) pos) (rdE T y)) : PE X (.BoolOp .Or (a :: b :: rest) pos) (rdE T (aOrV x y)) := (pe_or ha hb).mono fun σ H Q h => by
  obtain ⟨G, F, δ, P, R, h, k⟩ := h
  refine ⟨G, F, δ, _, R, h, fun w hw v F1 H1 g r => ?_⟩
  split at hw
  · refine ⟨true, rep_bl r, ?_⟩
    rw [if_pos rfl]
    exact k _ hw _ _ _ g (.bl _)
  · refine ⟨false, rep_bl r, ?_⟩
    rw [if_neg Bool.false_ne_true]
    exact ⟨G, F1, δ, P, R.go g, hw, fun z hz v F2 H2 g2 r2 => k z hz v F2 H2 (g.trans g2) (r2.back g.h)⟩
  · exact hw.elim
theorem e_not (ha : PE X a (rdE T x)) : PE X (.UnaryOp .Not a pos) (rdE T (aUn dNot x)) := (pe_not ha).mono fun σ H Q h => by
  obtain ⟨G, F, δ, P, R, h, k⟩ := h
  refine ⟨G, F, δ, _, R, h, fun w hw v F1 H1 g r => ?_⟩
  unfold dNot at hw
  split at hw
  · exact ⟨_, rep_bl r, k _ hw _ _ _ g (.bl _)⟩
  · exact hw.elim
theorem t_val (h : PE X a (rdE T x)) (he : ∀ whole, isTrue a X.env whole = (do let v ← whole; standAt a.pos; holding [v] (truthy v)) := by intro _; rfl) : PT X a (rdT T (aB x)) := (pt_val h he).mono fun σ H Q h => by
  obtain ⟨G, F, δ, P, R, h, k⟩ := h
  refine ⟨G, F, δ, _, R, h, fun w hw v F1 H1 g r => ?_⟩
  split at hw
  · exact ⟨_, rep_bl r, k _ hw _ _ g⟩
  · exact hw.elim
theorem t_cmp {op : CmpOp} {r : R2} {f : W → W → (W → Prop) → Prop} (ho : OpR X (compareOp op) r) (hf : Bin2 T r f) (ha : PE X a (rdE T x)) (hb : PE X b (rdE T y)) (hm : behindInMarks op b = false) : PT X (.Compare a [op] [b] pos) (rdT T (aB (aBin f x y))) :=
  (pt_cmpR ho ha hb hm).mono fun σ H Q h => by
    obtain ⟨G, F, δ, P, R, h, k⟩ := h
    refine rd_bin hf ⟨G, F, δ, _, R, h, fun w hw v F1 H1 g r => ?_⟩
    split at hw
    · exact ⟨_, rep_bl r, k _ hw _ _ g⟩
    · exact hw.elim
theorem w_and1 (h : PT X a (rdT T t)) : PW X (.BoolOp .And [a] pos) (rdT T t) := pw_and1 h
theorem w_or1 (h : PT X a (rdT T t)) : PW X (.BoolOp .Or [a] pos) (rdT T t) := pw_or1 h
theorem w_and (ha : PT X a (rdT T t)) (hb : PW X (.BoolOp .And (b :: rest) pos) (rdT T u)) : PW X (.BoolOp .And (a :: b :: rest) pos) (rdT T (aAnd t u)) := (pw_and ha hb).mono fun σ H Q h => by
  obtain ⟨G, F, δ, P, R, h, k⟩ := h
  refine ⟨G, F, δ, _, R, h, fun c hc F1 H1 g => ?_⟩
  cases c with
  | true => exact ⟨G, F1, δ, P, R.go g, hc, fun z hz F2 H2 g2 => k z hz F2 H2 (g.trans g2)⟩
  | false => exact k _ hc _ _ g
theorem w_or (ha : PT X a (rdT T t)) (hb : PW X (.BoolOp .Or (b :: rest) pos) (rdT T u)) : PW X (.BoolOp .Or (a :: b :: rest) pos) (rdT T (aOr t u)) := (pw_or ha hb).mono fun σ H Q h => by
  obtain ⟨G, F, δ, P, R, h, k⟩ := h
  refine ⟨G, F, δ, _, R, h, fun c hc F1 H1 g => ?_⟩
  cases c with
  | false => exact ⟨G, F1, δ, P, R.go g, hc, fun z hz F2 H2 g2 => k z hz F2 H2 (g.trans g2)⟩
  | true => exact k _ hc _ _ g
theorem t_not (h : PT X a (rdT T t)) : PT X (.UnaryOp .Not a pos) (rdT T (aNot t)) := (pt_not h).mono fun σ H Q h => by
  obtain ⟨G, F, δ, P, R, h, k⟩ := h
  exact ⟨G, F, δ, _, R, h, fun c hc F1 H1 g => k _ hc _ _ g⟩
theorem e_if (ht : PT X c (rdT T t)) (ha : PE X a (rdE T x)) (hb : PE X b (rdE T y)) : PE X (.IfExp c a b pos) (rdE T (aIfE t x y)) := (pe_ifExp ht ha hb).mono fun σ H Q h => by
  obtain ⟨G, F, δ, P, R, h, k⟩ := h
  refine ⟨G, F, δ, _, R, h, fun c hc F1 H1 g => ?_⟩
  cases c with
  | true => exact ⟨G, F1, δ, P, R.go g, hc, fun z hz v F2 H2 g2 r2 => k z hz v F2 H2 (g.trans g2) (r2.back g.h)⟩
  | false => exact ⟨G, F1, δ, P, R.go g, hc, fun z hz v F2 H2 g2 r2 => k z hz v F2 H2 (g.trans g2) (r2.back g.h)⟩
end
end Vl
namespace Vl
open PySem PySem.Spec PyProof.Rows L2

/-! ### statements -/
def slotA : W → Option AV
  | .cl d => some (.im d)
  | .fr m => some (.ow false m)
  | .bw m => some (.bw m)
  | .ow _ => none
def aNext : AS := fun E δ => E.nx δ
def aSeq (s t : AS) : AS := fun E δ => s { E with nx := t E } δ
/-- what follows is shown once -/
def aCut (s t : AS) : AS := fun E δ => ∃ Mid : List AV → Prop, s { E with nx := Mid } δ ∧ ∀ δ', Mid δ' → t E δ'
def aSet (i : Nat) (e : AE) : AS := fun E δ => e δ fun w => match slotA w with
  | some a => E.nx (δ.set i a)
  | none => False
def aDrop (e : AE) : AS := fun E δ => e δ fun _ => E.nx δ
def aIf (t : AT) (s u : AS) : AS := fun E δ => t δ fun b => if b = true then s E δ else u E δ
def aRet (e : AE) : AS := fun E δ => e δ fun w => match w with
  | .cl d => E.rt (.cl d) δ
  | .fr m => E.rt (.fr m) δ
  | _ => False
/-- a local of the def's own is handed back -/
def aRetV (i : Nat) : AS := fun E δ => match gt δ i with
  | .im d => E.rt (.cl d) δ
  | .ow false m => E.rt (.fr m) δ
  | _ => False
def aRetN : AS := fun E δ => E.rt (.cl .non) δ
def aBreak : AS := fun E δ => E.bk δ
def aCont : AS := fun E δ => E.ct δ
/-- from here on the i-th slot's list is changed by nobody -/
def frz (i : Nat) (δ : List AV) : List AV := match gt δ i with
  | .ow false m => δ.set i (.im m.toD)
  | _ => δ
def aFrz (i : Nat) (s : AS) : AS := fun E δ => s E (frz i δ)

section
variable {T : Tb} {G : Gx} {F F' F1 H H' H1 : Hp} {σ : L2.St} {δ : List AV} {v : V} {w : W} {m m' : M} {p : Addr} {i j : Nat} {a : AV} {l : Bool} {o : HO}
theorem gs_ref (h : gs σ i = some v) : i < σ.length := by
  have := gs_some h
  exact (List.getElem?_eq_some_iff.mp this).1
theorem gt_lt (h : gt δ i ≠ .non) : i < δ.length := by
  unfold gt at h
  rw [List.getD_eq_getElem?_getD] at h
  cases q : δ[i]? with
  | none => rw [q] at h; exact absurd rfl h
  | some _ => exact (List.getElem?_eq_some_iff.mp q).1
/-- a slot is stored -/
theorem RepS.put (R : RepS T G F H σ δ) (h : SlotOk T G F H (some v) a) (hd : ∀ l m, a = .ow l m → ∀ j l' m' w A B, j ≠ i → gt δ j = .ow l' m' → gs σ j = some w → Own T F H v m A → Own T F H w m' B → ∀ x ∈ A, x ∉ B) : RepS T G F H (σ.set i (some v)) (δ.set i a) where
  ex := R.ex
  fr := R.fr
  th := R.th
  lh := R.lh
  f0 := R.f0
  fn := R.fn
  len := by rw [List.length_set, List.length_set]; exact R.len
  sl := fun j => by
    by_cases hi : i < σ.length
    · have hi' : i < δ.length := R.len ▸ hi
      rw [gs_set hi, gt_set hi']
      by_cases e : i = j
      · rw [if_pos e, if_pos e]; exact h
      · rw [if_neg e, if_neg e]; exact R.sl j
    · have hi' : ¬ i < δ.length := R.len ▸ hi
      rw [gs_out hi, gt_out hi']; exact R.sl j
  dj := fun j k l l' m m' u w A B ne e1 e2 e3 e4 o1 o2 => by
    by_cases hi : i < σ.length
    · have hi' : i < δ.length := R.len ▸ hi
      rw [gs_set hi] at e3 e4
      rw [gt_set hi'] at e1 e2
      by_cases ej : i = j
      · have ek : ¬ i = k := fun z => ne (ej.symm.trans z)
        rw [if_pos ej] at e1 e3
        rw [if_neg ek] at e2 e4
        cases e3
        exact hd _ _ e1 k _ _ _ _ _ (fun z => ek z.symm) e2 e4 o1 o2
      · by_cases ek : i = k
        · rw [if_neg ej] at e1 e3
          rw [if_pos ek] at e2 e4
          cases e4
          intro x hx hb
          exact hd _ _ e2 j _ _ _ _ _ (fun z => ej z.symm) e1 e3 o2 o1 x hb hx
        · rw [if_neg ej] at e1 e3
          rw [if_neg ek] at e2 e4
          exact R.dj j k l l' m m' u w A B ne e1 e2 e3 e4 o1 o2
    · have hi' : ¬ i < δ.length := R.len ▸ hi
      rw [gs_out hi] at e3 e4
      rw [gt_out hi'] at e1 e2
      exact R.dj j k l l' m m' u w A B ne e1 e2 e3 e4 o1 o2
theorem RepS.store (R : RepS T G F H σ δ) (g : Go F H F1 H1) (r : RepW T G H F1 H1 v w) (hs : slotA w = some a) : RepS T G F1 H1 (σ.set i (some v)) (δ.set i a) := by
  refine (R.go g).put ?_ ?_
  · cases w with
    | cl d => cases hs; exact ⟨v, rfl, r⟩
    | fr m =>
      cases hs
      obtain ⟨A, o, hA⟩ := r
      refine ⟨v, A, rfl, o, ?_⟩
      unfold OwS
      rw [if_neg Bool.false_ne_true]
      exact fun x q => Classical.byContradiction fun z => R.th x z (hA x q)
    | bw m => cases hs; obtain ⟨A, o, hA⟩ := r; exact ⟨v, A, rfl, o, hA⟩
    | ow m => cases hs
  · intro l m e j l' m' w' A B nj ej hj oA oB
    cases w with
    | cl d => cases hs; cases e
    | fr m2 =>
      cases hs; cases e
      obtain ⟨A', o, hA⟩ := r
      cases Own.det oA o
      obtain ⟨w2, B', e2, o2, _⟩ := R.own ej
      rw [hj] at e2; cases e2
      cases Own.det oB (o2.go g)
      exact fun x q z => (o2.mem x z).1 (hA x q)
    | bw m => cases hs; cases e
    | ow m => cases hs
/-- an own tree is changed within its own objects, and by new ones -/
theorem RepS.step {A A' : List Addr} {Fb Hb F' H' : Hp} (Rb : RepS T G Fb Hb σ δ) (g : Go Fb Hb F H) (e : gt δ i = .ow l m) (hv : gs σ i = some v) (hA : Own T F H v m A) (ex : Same F' H') (sF : Same F F') (nF : ∀ a, a ∉ A → H a ≠ none → NT H' a → F' a = F a)
    (fr : ∀ a, a ∉ A → H a ≠ none → H' a = H a) (th : ∀ a, H a ≠ none → H' a ≠ none) (o : Own T F' H' v m' A') (hA' : ∀ a ∈ A', a ∈ A ∨ Hb a = none) : RepS T G F' H' σ (δ.set i (.ow l m')) := by
  have R := Rb.go g
  obtain ⟨v2, A2, e2, o2, os⟩ := R.own e
  rw [hv] at e2; cases e2
  cases Own.det hA o2
  have hi' : i < δ.length := gt_lt (by rw [e]; simp)
  have keep : ∀ {w : V} {m2 : M} {B : List Addr}, Own T F H w m2 B → (∀ a ∈ B, a ∉ A) → Own T F' H' w m2 B := fun {w m2 B} ob nd => ob.keep sF (fun a q => fr a (nd a q) (ob.mem a q).1) fun a q n => (nF a (nd a q) (ob.mem a q).1 (n.at (fr a (nd a q) (ob.mem a q).1))).trans ((ob.mem a q).2 n)
  have outL : ∀ a, G.H0 a ≠ none → a ∉ G.L → a ∉ A := fun a h1 h2 q => by
    unfold OwS at os
    cases l with
    | true =>
      have os : v = G.r ∧ ∀ a ∈ A, a ∈ G.L ∨ G.H0 a = none := os
      rcases os.2 a q with z | z
      · exact h2 z
      · exact h1 z
    | false =>
      have os : ∀ a ∈ A, G.H0 a = none := os
      exact h1 (os a q)
  have slotj : ∀ j, j ≠ i → SlotOk T G F' H' (gs σ j) (gt δ j) := fun j nj => by
    have q := R.sl j
    revert q
    generalize hg : gt δ j = aj
    intro q
    cases aj with
    | non => trivial
    | im d => obtain ⟨w, e1, r⟩ := q; exact ⟨w, e1, r.mono sF⟩
    | bw m2 =>
      obtain ⟨w, B, e1, ob, hb⟩ := q
      exact ⟨w, B, e1, keep ob fun a z => outL a (hb a z).2 (hb a z).1, hb⟩
    | ow l2 m2 =>
      obtain ⟨w, B, e1, ob, hb⟩ := q
      exact ⟨w, B, e1, keep ob fun a z z2 => R.dj i j l l2 m m2 v w A B (fun y => nj y.symm) e hg hv e1 hA ob a z2 z, hb⟩
  refine ⟨ex, fun a x h1 h2 => ?_, fun a h1 => th a (R.th a h1), R.lh, R.f0.trans sF, fun a h1 l1 n => (nF a (outL a h1 l1) (R.th a h1) n).trans (R.fn a h1 l1 (n.at (fr a (outL a h1 l1) (R.th a h1)).symm)), by rw [List.length_set]; exact R.len, fun j => ?_, fun j k l1 l2 m1 m2 u w B C ne e1 e2 e3 e4 o1 o3 => ?_⟩
  · have h3 := R.fr a x h1 h2
    rw [fr a (outL a (by rw [h1]; simp) h2) (by rw [h3]; simp)]; exact h3
  · rw [gt_set hi']
    by_cases ej : i = j
    · rw [if_pos ej, ← ej, hv]
      refine ⟨v, A', rfl, o, ?_⟩
      unfold OwS at os ⊢
      cases l with
      | true =>
        have os : v = G.r ∧ ∀ a ∈ A, a ∈ G.L ∨ G.H0 a = none := os
        refine ⟨os.1, fun a q => ?_⟩
        rcases hA' a q with z | z
        · exact os.2 a z
        · exact .inr (Classical.byContradiction fun y => Rb.th a y z)
      | false =>
        have os : ∀ a ∈ A, G.H0 a = none := os
        intro a q
        rcases hA' a q with z | z
        · exact os a z
        · exact Classical.byContradiction fun y => Rb.th a y z
    · rw [if_neg ej]; exact slotj j fun z => ej z.symm
  · have other : ∀ {j l1 m1 u B}, j ≠ i → gt δ j = .ow l1 m1 → gs σ j = some u → Own T F' H' u m1 B → ∀ a ∈ B, a ∉ A' := fun {j l1 m1 u B} nj ej es ob a q z => by
      obtain ⟨w, B', e1, ob0, _⟩ := Rb.own ej
      have ob' := ob0.go g
      rw [es] at e1; cases e1
      have dd := R.dj i j l l1 m m1 v u A B' (fun y => nj y.symm) e ej hv es hA ob'
      cases Own.det ob (keep ob' fun a z z2 => dd a z2 z)
      rcases hA' a z with y | y
      · exact dd a y q
      · exact (ob0.mem a q).1 y
    rw [gt_set hi'] at e1 e2
    by_cases ej : i = j
    · rw [if_pos ej] at e1; cases e1
      have nk : k ≠ i := fun z => ne (ej.symm.trans z.symm)
      rw [if_neg fun z => nk z.symm] at e2
      rw [← ej, hv] at e3; cases e3
      cases Own.det o1 o
      intro a q z
      exact other nk e2 e4 o3 a z q
    · rw [if_neg ej] at e1
      by_cases ek : i = k
      · rw [if_pos ek] at e2; cases e2
        rw [← ek, hv] at e4; cases e4
        cases Own.det o3 o
        exact other (fun z => ej z.symm) e1 e3 o1
      · rw [if_neg ek] at e2
        obtain ⟨w1, B1, q1, ob1, _⟩ := R.own e1
        obtain ⟨w2, B2, q2, ob2, _⟩ := R.own e2
        rw [e3] at q1; cases q1
        rw [e4] at q2; cases q2
        have d1 := R.dj i j l l1 m m1 v u A B1 ej e e1 hv e3 hA ob1
        have d2 := R.dj i k l l2 m m2 v w A B2 ek e e2 hv e4 hA ob2
        cases Own.det o1 (keep ob1 fun a z z2 => d1 a z2 z)
        cases Own.det o3 (keep ob2 fun a z z2 => d2 a z2 z)
        exact R.dj j k l1 l2 m1 m2 u w _ _ ne e1 e2 e3 e4 ob1 ob2
/-- an own object is changed by nobody from here on -/
theorem RepS.frz (R : RepS T G F H σ δ) (i : Nat) : ∃ F', Same F F' ∧ RepS T G F' H σ (frz i δ) := by
  unfold Vl.frz
  split
  · rename_i m e
    obtain ⟨v, A, hv, o, os⟩ := R.own e
    have os : ∀ a ∈ A, G.H0 a = none := os
    have hi' : i < δ.length := gt_lt (by rw [e]; simp)
    have sm : Same F (ext F A H) := ext_same R.ex
    have keep : ∀ {w : V} {m2 : M} {B : List Addr}, Own T F H w m2 B → (∀ a ∈ B, a ∉ A) → Own T (ext F A H) H w m2 B := fun {w m2 B} ob nd => ob.keep sm (fun _ _ => rfl) fun a q n => (ext_out (nd a q)).trans ((ob.mem a q).2 n)
    have slotj : ∀ j, j ≠ i → SlotOk T G (ext F A H) H (gs σ j) (gt δ j) := fun j nj => by
      have q := R.sl j
      revert q
      generalize hg : gt δ j = aj
      intro q
      cases aj with
      | non => trivial
      | im d => obtain ⟨w, e1, r⟩ := q; exact ⟨w, e1, r.mono sm⟩
      | bw m2 =>
        obtain ⟨w, B, e1, ob, hb⟩ := q
        exact ⟨w, B, e1, keep ob fun a z z2 => (hb a z).2 (os a z2), hb⟩
      | ow l2 m2 =>
        obtain ⟨w, B, e1, ob, hb⟩ := q
        exact ⟨w, B, e1, keep ob fun a z z2 => R.dj i j false l2 m m2 v w A B (fun y => nj y.symm) e hg hv e1 o ob a z2 z, hb⟩
    refine ⟨ext F A H, sm, fun a x h1 => ?_, R.fr, R.th, R.lh, R.f0.trans sm, fun a h1 => ?_, by rw [List.length_set]; exact R.len, fun j => ?_, fun j k l1 l2 m1 m2 u w B C ne e1 e2 e3 e4 o1 o2 => ?_⟩
    · by_cases q : a ∈ A
      · rw [ext_in q] at h1; exact h1
      · rw [ext_out q] at h1; exact R.ex _ _ h1
    · rw [ext_out fun z => h1 (os a z)]; exact R.fn a h1
    · rw [gt_set hi']
      by_cases ej : i = j
      · rw [if_pos ej, ← ej, hv]
        exact ⟨v, rfl, o.frz sm fun a q => ext_in q⟩
      · rw [if_neg ej]; exact slotj j fun z => ej z.symm
    · rw [gt_set hi'] at e1 e2
      by_cases q : i = j
      · rw [if_pos q] at e1; cases e1
      · by_cases q2 : i = k
        · rw [if_pos q2] at e2; cases e2
        · rw [if_neg q] at e1; rw [if_neg q2] at e2
          obtain ⟨w1, B1, z1, ob1, _⟩ := R.own e1
          obtain ⟨w2, B2, z2, ob2, _⟩ := R.own e2
          rw [e3] at z1; cases z1
          rw [e4] at z2; cases z2
          have d1 := R.dj i j false l1 m m1 v u A B1 q e e1 hv e3 o ob1
          have d2 := R.dj i k false l2 m m2 v w A B2 q2 e e2 hv e4 o ob2
          cases Own.det o1 (keep ob1 fun a z z2 => d1 a z2 z)
          cases Own.det o2 (keep ob2 fun a z z2 => d2 a z2 z)
          exact R.dj j k l1 l2 m1 m2 u w _ _ ne e1 e2 e3 e4 ob1 ob2
  · exact ⟨F, Same.refl _, R⟩
/-- what is handed back from a new value -/
theorem RepS.apart (R : RepS T G F H σ δ) (g : Go F H F1 H1) (r : RepW T G H F1 H1 v w) : Apart T F1 H1 σ δ v w := by
  intro m i m' u A B e e1 e2 o1 o2 a q z
  subst e
  obtain ⟨A', o, hA⟩ := r
  cases Own.det o1 o
  obtain ⟨u', B', e3, o3, _⟩ := R.own e1
  rw [e2] at e3; cases e3
  cases Own.det o2 (o3.go g)
  exact (o3.mem a z).1 (hA a q)
theorem apart_cl {d : D} : Apart T F H σ δ v (.cl d) := fun _ _ _ _ _ _ e => nomatch e
end
section
variable {T : Tb} {X : Cx} {st : Stmt} {rest : List Stmt} {s t u : AS} {e c : Expr} {x : AE} {at_ : AT} {pos : Pos} {i : Nat}
theorem ss_nil : PSs X [] (rdS T aNext) := pss_nil.mono fun D σ H h => by
  obtain ⟨G, F, δ, E, R, h, k⟩ := h
  exact k.nx _ h F H σ (Same.refl _) R
theorem ss_cons (h1 : PS X st (rdS T s)) (h2 : PSs X rest (rdS T t)) : PSs X (st :: rest) (rdS T (aSeq s t)) := (pss_cons h1 h2).mono fun D σ H h => by
  obtain ⟨G, F, δ, E, R, h, k⟩ := h
  exact ⟨G, F, δ, _, R, h, ⟨fun δ' q F' H' σ' s R' => ⟨G, F', δ', E, R', q, k.mono s⟩, k.rt, k.bk, k.ct⟩⟩
theorem ss_cut (h1 : PS X st (rdS T s)) (h2 : PSs X rest (rdS T t)) : PSs X (st :: rest) (rdS T (aCut s t)) := (pss_cons h1 h2).mono fun D σ H h => by
  obtain ⟨G, F, δ, E, R, ⟨Mid, h, hm⟩, k⟩ := h
  exact ⟨G, F, δ, _, R, h, ⟨fun δ' q F' H' σ' s R' => ⟨G, F', δ', E, R', hm δ' q, k.mono s⟩, k.rt, k.bk, k.ct⟩⟩
theorem ss_one (h1 : PS X st (rdS T s)) : PSs X [st] (rdS T s) := pss_one h1
theorem s_frz (i : Nat) (h : PS X st (rdS T s)) : PS X st (rdS T (aFrz i s)) := h.mono fun D σ H h => by
  obtain ⟨G, F, δ, E, R, h, k⟩ := h
  obtain ⟨F', sm, R'⟩ := R.frz i
  exact ⟨G, F', _, E, R', h, k.mono sm⟩
theorem ss_frz (i : Nat) (h : PSs X rest (rdS T s)) : PSs X rest (rdS T (aFrz i s)) := h.mono fun D σ H h => by
  obtain ⟨G, F, δ, E, R, h, k⟩ := h
  obtain ⟨F', sm, R'⟩ := R.frz i
  exact ⟨G, F', _, E, R', h, k.mono sm⟩
theorem s_pass : PS X (.Pass pos) (rdS T aNext) := ps_pass.mono fun D σ H h => by
  obtain ⟨G, F, δ, E, R, h, k⟩ := h
  exact k.nx _ h F H σ (Same.refl _) R
theorem s_break : PS X (.Break pos) (rdS T aBreak) := ps_break.mono fun D σ H h => by
  obtain ⟨G, F, δ, E, R, h, k⟩ := h
  exact k.bk _ h F H σ (Same.refl _) R
theorem s_cont : PS X (.Continue pos) (rdS T aCont) := ps_continue.mono fun D σ H h => by
  obtain ⟨G, F, δ, E, R, h, k⟩ := h
  exact k.ct _ h F H σ (Same.refl _) R
theorem rd_set {D : Ends} {σ : L2.St} {H : Hp} (h : rdS T (aSet i x) D σ H) : tAsg (rdE T x) (gName i) D σ H := by
  obtain ⟨G, F, δ, E, R, h, k⟩ := h
  refine ⟨G, F, δ, _, R, h, fun w hw v F1 H1 g r => ?_⟩
  split at hw
  · rename_i a ha
    exact k.nx _ hw F1 H1 _ g.f (R.store g r ha)
  · exact hw.elim
theorem s_set {y : Str} {pos' : Pos} (hN : X.N.Nodup) (hi : X.N[i]? = some y) (hx : Loc X.env.scope y) (he : PE X e (rdE T x)) (hs : swapsWith e (some (.Name y pos')) pos.line X.env = pure false := by rfl) (hf : X.fn y = true ∨ X.env.scope.names.lookup y = some .local := by first | exact .inl rfl | exact .inr rfl | assumption) :
    PS X (.Assign [.Name y pos'] e pos) (rdS T (aSet i x)) := (ps_set hN hi hx he hs hf).mono fun _ _ _ h => rd_set h
theorem s_expr (he : PE X e (rdE T x)) (hs : swapsWith e none pos.line X.env = pure false := by rfl) : PS X (.Expr e pos) (rdS T (aDrop x)) := (ps_expr he hs).mono fun D σ H h => by
  obtain ⟨G, F, δ, E, R, h, k⟩ := h
  exact ⟨G, F, δ, _, R, h, fun w hw v F1 H1 g r => k.nx _ hw F1 H1 _ g.f (R.go g)⟩
theorem s_if {a b : List Stmt} (ht : PT X c (rdT T at_)) (ha : PSs X a (rdS T s)) (hb : PSs X b (rdS T u)) : PS X (.If c a b pos) (rdS T (aIf at_ s u)) := (ps_if ht ha hb).mono fun D σ H h => by
  obtain ⟨G, F, δ, E, R, h, k⟩ := h
  refine ⟨G, F, δ, _, R, h, fun c hc F1 H1 g => ?_⟩
  cases c with
  | true => exact ⟨G, F1, δ, E, R.go g, hc, k.mono g.f⟩
  | false => exact ⟨G, F1, δ, E, R.go g, hc, k.mono g.f⟩
theorem s_ret (he : PE X e (rdE T x)) : PS X (.Return (some e) pos) (rdS T (aRet x)) := (ps_ret he).mono fun D σ H h => by
  obtain ⟨G, F, δ, E, R, h, k⟩ := h
  refine ⟨G, F, δ, _, R, h, fun w hw v F1 H1 g r => ?_⟩
  have ap := R.apart g r
  split at hw
  · exact k.rt _ δ hw v F1 H1 σ g.f (R.go g) r ap
  · refine k.rt _ δ hw v F1 H1 σ g.f (R.go g) ?_ ap
    obtain ⟨A, o, hA⟩ := r
    exact ⟨A, o, fun a q => Classical.byContradiction fun z => R.th a z (hA a q)⟩
  · exact hw.elim
theorem s_retV (i : Nat) {y : Str} {p2 : Pos} (hN : X.N[i]? = some y := by rfl) (hv : Vis X.env.scope y := by first | exact Or.inl rfl | exact Or.inr (Or.inl rfl) | exact Or.inr (Or.inr rfl)) (hd : (y == ("__debug__" : Str)) = false := by decide)
    (hcd : (y == ("__classdict__" : Str)) = false := by decide) : PS X (.Return (some (.Name y p2)) pos) (rdS T (aRetV i)) := (ps_ret (pe_var hN hv hd hcd)).mono fun D σ H h => by
  obtain ⟨G, F, δ, E, R, h, k⟩ := h
  have q := R.sl i
  unfold aRetV at h
  revert q
  generalize hg : gt δ i = a at h
  intro q
  cases a with
  | non => exact h.elim
  | im d =>
    obtain ⟨v, e, r⟩ := q
    exact ⟨v, gs_some e, k.rt _ δ h v F H σ (Same.refl _) R r apart_cl⟩
  | bw m => exact h.elim
  | ow l m =>
    cases l with
    | true => exact h.elim
    | false =>
      obtain ⟨v, A, e, o, os⟩ := q
      have os : ∀ a ∈ A, G.H0 a = none := os
      refine ⟨v, gs_some e, k.rt _ δ h v F H σ (Same.refl _) R ⟨A, o, os⟩ fun m1 j m2 u B C e1 e2 e3 o1 o2 => ?_⟩
      cases e1
      refine R.dj i j false true m m2 v u B C (fun z => ?_) hg e2 e e3 o1 o2
      subst z
      rw [hg] at e2; cases e2
theorem s_retN : PS X (.Return none pos) (rdS T aRetN) := ps_retN.mono fun D σ H h => by
  obtain ⟨G, F, δ, E, R, h, k⟩ := h
  exact k.rt _ δ h .non F H σ (Same.refl _) R .non apart_cl
end

/-! ### targets -/
abbrev AG := D → List AV → (List AV → Prop) → Prop
abbrev AGs := List D → List AV → (List AV → Prop) → Prop
def agN (i : Nat) : AG := fun d δ Q => Q (δ.set i (.im d))
def agT (n : Nat) (g : AGs) : AG := fun d δ Q => match d with
  | .tup ds => ds.length = n ∧ g ds δ Q
  | _ => False
def agNil : AGs := fun ds δ Q => ds = [] ∧ Q δ
def agCons (g : AG) (gs : AGs) : AGs := fun ds δ Q => match ds with
  | d :: ds => g d δ fun δ' => gs ds δ' Q
  | [] => False
/-- slots outside ks are as they were -/
def Keep (ks : List Nat) (σ σ' : L2.St) : Prop := σ'.length = σ.length ∧ ∀ i, i ∉ ks → σ'[i]? = σ[i]?
def rdG (T : Tb) (ks : List Nat) (a : AG) : TG := fun v σ H Q => ∃ G F δ P d, RepS T G F H σ δ ∧ Rep T F v d ∧ a d δ P ∧ ∀ δ', P δ' → ∀ σ', Keep ks σ σ' → RepS T G F H σ' δ' → Q σ' H
def rdGs (T : Tb) (ks : List Nat) (a : AGs) : TGs := fun vs σ H Q => ∃ G F δ P ds, RepS T G F H σ δ ∧ Reps T F vs ds ∧ a ds δ P ∧ ∀ δ', P δ' → ∀ σ', Keep ks σ σ' → RepS T G F H σ' δ' → Q σ' H
theorem _root_.L2.PG.mono {X : Cx} {e : Expr} {t t' : TG} (h : PG X e t) (k : ∀ v σ H Q, t' v σ H Q → t v σ H Q) : PG X e t' := ⟨fun pins s σ H v u Q I r q => h.run pins s σ H v u Q I r (k v σ H Q q)⟩
theorem _root_.L2.PGs.mono {X : Cx} {e : List Expr} {t t' : TGs} (h : PGs X e t) (k : ∀ v σ H Q, t' v σ H Q → t v σ H Q) : PGs X e t' := ⟨fun pins s σ H v u Q I r q => h.run pins s σ H v u Q I r (k v σ H Q q)⟩
section
variable {T : Tb} {X : Cx} {pos : Pos} {ks ks' : List Nat} {σ σ' σ2 : L2.St}
theorem Keep.refl : Keep ks σ σ := ⟨rfl, fun _ _ => rfl⟩
theorem Keep.trans (a : Keep ks σ σ') (b : Keep ks' σ' σ2) : Keep (ks ++ ks') σ σ2 :=
  ⟨b.1.trans a.1, fun i hi => (b.2 i fun h => hi (List.mem_append_right _ h)).trans (a.2 i fun h => hi (List.mem_append_left _ h))⟩
theorem g_name {i : Nat} {x : Str} (hN : X.N.Nodup) (hi : X.N[i]? = some x) (hx : Loc X.env.scope x) (hf : X.fn x = true ∨ X.env.scope.names.lookup x = some .local := by first | exact .inl rfl | exact .inr rfl | assumption) : PG X (.Name x pos) (rdG T [i] (agN i)) :=
  (pg_name hN hi hx hf).mono fun v σ H Q h => by
    obtain ⟨G, F, δ, P, d, R, r, h, k⟩ := h
    refine k _ h _ ⟨by rw [List.length_set], fun j hj => ?_⟩ (R.put (a := .im d) ⟨v, rfl, r⟩ fun _ _ e => nomatch e)
    rw [List.getElem?_set_ne]
    exact fun e => hj (by simp [e])
theorem g_nil : PGs X [] (rdGs T [] agNil) := pgs_nil.mono fun v σ H Q h => by
  obtain ⟨G, F, δ, P, d, R, r, ⟨e, h⟩, k⟩ := h
  subst e
  cases r
  exact ⟨rfl, k _ h _ Keep.refl R⟩
theorem g_cons {e : Expr} {es : List Expr} {a : AG} {as : AGs} (h1 : PG X e (rdG T ks a)) (h2 : PGs X es (rdGs T ks' as))
    (hs : (assignEach (e :: es) X.env).map (·.2) = assign e X.env :: (assignEach es X.env).map (·.2) := by rfl) : PGs X (e :: es) (rdGs T (ks ++ ks') (agCons a as)) := (pgs_cons h1 h2 hs).mono fun v σ H Q h => by
  obtain ⟨G, F, δ, P, ds, R, r, h, k⟩ := h
  cases r with
  | nil => exact h.elim
  | cons r t =>
    exact ⟨_, _, rfl, G, F, δ, _, _, R, r, h, fun δ' q σ' kp R' => ⟨G, F, δ', P, _, R', t, q, fun δ2 q2 σ2 kp2 R2 => k δ2 q2 σ2 (kp.trans kp2) R2⟩⟩
theorem g_tup {es : List Expr} {k : Nat} {a : AGs} {n : Nat} (hc : X.calm = true) (h : PGs X es (rdGs T ks a))
    (hn : (assignEach es X.env).length = n := by rfl) (hst : (assignEach es X.env).findIdx? (·.1) = none := by rfl) : PG X (.Tuple es k pos) (rdG T ks (agT n a)) := (pg_tup hc h hn hst).mono fun v σ H Q h => by
  obtain ⟨G, F, δ, P, d, R, r, h, k⟩ := h
  unfold agT at h
  split at h
  · rename_i ds
    obtain ⟨q1, q2⟩ := h
    obtain ⟨p, vs, rfl, hp, rr⟩ := rep_tup r
    exact ⟨p, vs, rfl, SqT.of (R.ex _ _ hp), rr.length.trans q1, G, F, δ, P, ds, R, rr, q2, k⟩
  · exact h.elim
/-- (a, b) = e and the like -/
def aAsgG (e : AE) (g : AG) : AS := fun E δ => e δ fun w => match argW w with
  | .cl d => g d δ E.nx
  | _ => False
theorem s_asgG {tg e : Expr} {x : AE} {a : AG} (he : PE X e (rdE T x)) (hg : PG X tg (rdG T ks a)) (hs : swapsWithSole [tg] e pos.line X.env = pure false := by rfl) (hw : swappedStores [tg] e X.env = pure none := by rfl)
    (h1 : (assignEach [tg] X.env).map (·.2) = [assign tg X.env] := by rfl) : PS X (.Assign [tg] e pos) (rdS T (aAsgG x a)) := (ps_asg he hg hs hw h1).mono fun D σ H h => by
  obtain ⟨G, F, δ, E, R, h, k⟩ := h
  refine ⟨G, F, δ, _, R, h, fun w hw v F1 H1 g r => ?_⟩
  obtain ⟨F2, g2, _, _, r2, _⟩ := RepW.arg g r
  split at hw
  · rename_i d hd
    rw [hd] at r2
    exact ⟨G, F2, δ, _, d, R.go g2, r2, hw, fun δ' q σ' _ R' => k.nx _ q F2 H1 σ' g2.f R'⟩
  · exact hw.elim
end

/-! ### what is walked -/
abbrev AI := List AV → (List D → Prop) → Prop
/-- J walks over the data ds -/
def IsWalk (T : Tb) (G : Gx) (F : Hp) (J : It) (ds : List D) : Prop := ∃ Gd Y, Walk J ds.length Gd Y ∧ (∀ F' H' σ' δ', Same F F' → RepS T G F' H' σ' δ' → Gd H') ∧
  ∀ i H x H', i < ds.length → Gd H → Y i H x H' → H' = H ∧ ∃ d, ds[i]? = some d ∧ ∀ F', Same F F' → Same F' H → Rep T F' x d
def rdI (T : Tb) (a : AI) : TI := fun σ H R => ∃ G F δ P, RepS T G F H σ δ ∧ a δ P ∧ ∀ ds, P ds → ∀ J F1 H1, Go F H F1 H1 → IsWalk T G F1 J ds → R J H1
theorem _root_.L2.PI.mono {X : Cx} {tg it : Expr} {t t' : TI} (h : PI X tg it t) (k : ∀ σ H Q, t' σ H Q → t σ H Q) : PI X tg it t' := ⟨fun pins s σ H R I q => h.run pins s σ H R I (k σ H R q)⟩
/-- a list that nobody changes meanwhile -/
def iLst (a : AE) : AI := fun δ Q => a δ fun w => match argW w with
  | .cl (.lst ds) => Q ds
  | .cl (.scr ns) => Q (ns.map .int)
  | .bw (.fl ds) => Q ds
  | _ => False
def iTup (a : AE) : AI := fun δ Q => a δ fun w => match argW w with
  | .cl (.tup ds) => Q ds
  | _ => False
/-- lo, lo + 1, .. -/
def ups (lo : Int) (n : Nat) : List D := (List.range n).map fun i => .int (lo + (i : Nat))
def iR1 (a : AA) : AI := fun δ Q => a δ fun ws => match ws with
  | [.cl (.int j)] => (-1000000000000 ≤ j ∧ j ≤ 1000000000000) ∧ Q (ups 0 j.toNat)
  | _ => False
def iR2 (a : AA) : AI := fun δ Q => a δ fun ws => match ws with
  | [.cl (.int i), .cl (.int j)] => (-1000000000000 ≤ i ∧ i ≤ 1000000000000 ∧ -1000000000000 ≤ j ∧ j ≤ 1000000000000) ∧ Q (ups i (j - i).toNat)
  | _ => False
section
variable {T : Tb} {X : Cx} {tg e : Expr} {es : List Expr} {x : AE} {xs : AA} {G : Gx} {F : Hp} {pos p : Pos}
theorem walk_fl {a : Addr} {vs : List V} {ds : List D} (r : Reps T F vs ds) (hs : ∀ F' H' σ' δ', Same F F' → RepS T G F' H' σ' δ' → SqL T.K H' a vs) : IsWalk T G F (Itl T.K a) ds := by
  have w := walk_list (K := T.K) (a := a) (xs := vs)
  rw [r.length] at w
  refine ⟨_, _, w, hs, fun i H x H' hi g y => ⟨y.1, ?_⟩⟩
  obtain ⟨d, hd, rd⟩ := r.get y.2
  exact ⟨d, hd, fun F' s _ => rd.mono s⟩
theorem walk_tl {a : Addr} {vs : List V} {ds : List D} (r : Reps T F vs ds) (hs : ∀ F' H' σ' δ', Same F F' → RepS T G F' H' σ' δ' → SqT T.K H' a vs) : IsWalk T G F (Itt T.K a) ds := by
  have w := walk_tup (K := T.K) (a := a) (xs := vs)
  rw [r.length] at w
  refine ⟨_, _, w, hs, fun i H x H' hi g y => ⟨y.1, ?_⟩⟩
  obtain ⟨d, hd, rd⟩ := r.get y.2
  exact ⟨d, hd, fun F' s _ => rd.mono s⟩
theorem walk_up {lo : Int} {n : Nat} : IsWalk T G F (Itr lo n) (ups lo n) := by
  have e : (ups lo n).length = n := by unfold ups; simp
  refine ⟨fun _ => True, YFn fun i => .int (lo + i), by rw [e]; exact walk_range, fun _ _ _ _ _ _ => trivial, fun i H x H' hi g y => ⟨y.1, ?_⟩⟩
  rw [e] at hi
  refine ⟨.int (lo + (i : Nat)), by unfold ups; simp [hi], fun F' _ _ => ?_⟩
  rw [y.2]
  exact .int _
theorem i_lst (hTK : T.K = X.K) (he : PE X e (rdE T x)) : PI X tg e (rdI T (iLst x)) := (pi_list he).mono fun σ H Q h => by
  obtain ⟨G, F, δ, P, R, h, k⟩ := h
  refine ⟨G, F, δ, _, R, h, fun w hw v F1 H1 g r => ?_⟩
  obtain ⟨F2, g2, _, _, r2, _⟩ := RepW.arg g r
  rw [← hTK]
  split at hw
  · rename_i ds hd
    rw [hd] at r2
    obtain ⟨a, vs, rfl, ha, rr⟩ := rep_lst r2
    exact ⟨a, rfl, ⟨vs, SqL.of (g2.ex _ _ ha)⟩, k _ hw _ F2 H1 g2 (walk_fl rr fun F' H' σ' δ' s R' => SqL.of (R'.ex _ _ (s _ _ ha)))⟩
  · rename_i ns hd
    rw [hd] at r2
    cases r2 with
    | scr q => exact ⟨_, rfl, ⟨_, Same.seq g2.ex q⟩, k _ hw _ F2 H1 g2 (walk_fl (reps_of_ints _) fun F' H' σ' δ' s R' => Same.seq R'.ex (Same.seq s q))⟩
  · rename_i ds hd
    rw [hd] at r2
    obtain ⟨A, o, hA⟩ := r2
    obtain ⟨a, vs, rfl, rfl, q, _, rr⟩ := own_fl o
    obtain ⟨hn, h0⟩ := hA a List.mem_cons_self
    refine ⟨a, rfl, ⟨vs, SqL.of q⟩, k _ hw _ F2 H1 g2 (walk_fl rr fun F' H' σ' δ' s R' => SqL.of ?_)⟩
    cases e0 : G.H0 a with
    | none => exact absurd e0 h0
    | some ob =>
      have z1 := (R.go g2).fr a ob e0 hn
      have z2 := R'.fr a ob e0 hn
      rw [z2, ← z1]; exact q
  · exact hw.elim
theorem i_tup (hTK : T.K = X.K) (he : PE X e (rdE T x)) : PI X tg e (rdI T (iTup x)) := (pi_tup he).mono fun σ H Q h => by
  obtain ⟨G, F, δ, P, R, h, k⟩ := h
  refine ⟨G, F, δ, _, R, h, fun w hw v F1 H1 g r => ?_⟩
  obtain ⟨F2, g2, _, _, r2, _⟩ := RepW.arg g r
  rw [← hTK]
  split at hw
  · rename_i ds hd
    rw [hd] at r2
    obtain ⟨a, vs, rfl, ha, rr⟩ := rep_tup r2
    exact ⟨a, rfl, ⟨vs, SqT.of (g2.ex _ _ ha)⟩, k _ hw _ F2 H1 g2 (walk_tl rr fun F' H' σ' δ' s R' => SqT.of (R'.ex _ _ (s _ _ ha)))⟩
  · exact hw.elim
theorem i_r1 (hg : Gl X "range") (hm : X.mg "range" = none) (ha : PA X [e] (rdA T xs)) (hs : starEach [e] X.env = [(false, eval e X.env)] := by rfl) : PI X tg (.Call (.Name "range" p) [e] [] pos) (rdI T (iR1 xs)) := (pi_range1 hg hm ha hs).mono fun σ H Q h => by
  obtain ⟨G, F, δ, P, R, h, k⟩ := h
  refine ⟨G, F, δ, _, R, h, fun ws hw vs F1 H1 g r => ?_⟩
  split at hw
  · rename_i j
    cases r with
    | cons r t =>
      cases t
      exact ⟨j, by rw [rep_int r], by omega, by omega, k _ hw.2 _ F1 H1 g walk_up⟩
  · exact hw.elim
theorem i_r2 {e2 : Expr} (hg : Gl X "range") (hm : X.mg "range" = none) (ha : PA X [e, e2] (rdA T xs)) (hs : starEach [e, e2] X.env = [(false, eval e X.env), (false, eval e2 X.env)] := by rfl) (hs2 : starEach [e2] X.env = [(false, eval e2 X.env)] := by rfl) :
    PI X tg (.Call (.Name "range" p) [e, e2] [] pos) (rdI T (iR2 xs)) := (pi_range2 hg hm ha hs hs2).mono fun σ H Q h => by
  obtain ⟨G, F, δ, P, R, h, k⟩ := h
  refine ⟨G, F, δ, _, R, h, fun ws hw vs F1 H1 g r => ?_⟩
  split at hw
  · rename_i i j
    cases r with
    | cons r t =>
      cases t with
      | cons r2 t =>
        cases t
        exact ⟨i, j, by rw [rep_int r, rep_int r2], ⟨by omega, by omega, by omega, by omega⟩, k _ hw.2 _ F1 H1 g walk_up⟩
  · exact hw.elim
end

/-! ### loops -/
def aFor (ai : AI) (g : AG) (body : AS) : AS := fun E δ => ai δ fun ds => ∃ I : Nat → List AV → Prop, I 0 δ ∧
  (∀ i d δ', ds[i]? = some d → I i δ' → g d δ' fun δ2 => body { E with nx := I (i + 1), ct := I (i + 1), bk := E.nx } δ2) ∧ ∀ δ', I ds.length δ' → E.nx δ'
def aWhile (t : AT) (body : AS) : AS := fun E δ => ∃ I : Nat → List AV → Prop, (∃ m, I m δ) ∧ ∀ m δ', I m δ' → t δ' fun b => if b = true then body { E with nx := fun δ2 => ∃ m', m' < m ∧ I m' δ2, ct := fun δ2 => ∃ m', m' < m ∧ I m' δ2, bk := E.nx } δ' else E.nx δ'
section
variable {T : Tb} {X : Cx} {tg it c : Expr} {body : List Stmt} {ai : AI} {ag : AG} {s : AS} {at_ : AT} {ks : List Nat} {pos : Pos}
theorem s_for (hp : PassesOwn (model X.prog X.w) X.A X.env X.xe) (hc : X.calm = true) (hi : PI X tg it (rdI T ai)) (hg : PG X tg (rdG T ks ag)) (hb : PSs X body (rdS T s))
    (hs : ∀ x, foldedSetIterable it X.env x = pure x := by intro _; rfl) : PS X (.For tg it body [] pos) (rdS T (aFor ai ag s)) := (ps_for hp hc hi hg hb hs).mono fun D σ H h => by
  obtain ⟨G, F, δ, E, R, h, k⟩ := h
  refine ⟨G, F, δ, _, R, h, fun ds hd J F1 H1 g W => ?_⟩
  obtain ⟨I, h0, hs, he⟩ := hd
  obtain ⟨Gd, Y, w, stb, yy⟩ := W
  refine for_it w (fun i σ' H' => ∃ F' δ', Same F1 F' ∧ RepS T G F' H' σ' δ' ∧ I i δ') ⟨F1, δ, Same.refl _, R.go g, h0⟩ (fun i σ' H' _ ⟨F', δ', s, R', _⟩ => stb F' H' σ' δ' s R') ?_ ?_
  · rintro i x σ' H' H2 hi ⟨F', δ', sm, R', hI⟩ hy
    obtain ⟨rfl, d, hd, rd⟩ := yy i H' x H2 hi (stb F' H' σ' δ' sm R') hy
    refine ⟨G, F', δ', _, d, R', rd F' sm R'.ex, hs i d δ' hd hI, fun δ2 q σ2 _ R2 => ?_⟩
    refine ⟨G, F', δ2, _, R2, q, ?_⟩
    exact ⟨fun δ3 q3 F3 H3 σ3 s3 R3 => ⟨F3, δ3, sm.trans s3, R3, q3⟩, fun w δ3 q3 v F3 H3 σ3 s3 => k.rt w δ3 q3 v F3 H3 σ3 (g.f.trans (sm.trans s3)),
      fun δ3 q3 F3 H3 σ3 s3 => k.nx δ3 q3 F3 H3 σ3 (g.f.trans (sm.trans s3)), fun δ3 q3 F3 H3 σ3 s3 R3 => ⟨F3, δ3, sm.trans s3, R3, q3⟩⟩
  · rintro σ' H' ⟨F', δ', sm, R', hI⟩
    exact k.nx _ (he δ' hI) F' H' σ' (g.f.trans sm) R'
theorem s_while (hp : PassesOwn (model X.prog X.w) X.A X.env X.xe) (hc : PT X c (rdT T at_)) (hb : PSs X body (rdS T s)) : PS X (.While c body [] pos) (rdS T (aWhile at_ s)) := (ps_while hp hc hb).mono fun D σ H h => by
  obtain ⟨G, F, δ, E, R, ⟨I, ⟨m, h0⟩, hs⟩, k⟩ := h
  refine ⟨fun m σ' H' => ∃ F' δ', Same F F' ∧ RepS T G F' H' σ' δ' ∧ I m δ', ⟨m, F, δ, Same.refl _, R, h0⟩, fun m σ' H' ⟨F', δ', sm, R', hI⟩ => ?_⟩
  refine ⟨G, F', δ', _, R', hs m δ' hI, fun b hb F2 H2 g => ?_⟩
  cases b with
  | true =>
    refine ⟨fun σ3 H3 => ∃ m', m' < m ∧ ∃ F' δ', Same F F' ∧ RepS T G F' H3 σ3 δ' ∧ I m' δ', fun σ3 H3 ⟨m', hm, q⟩ => ⟨m', hm, q⟩, G, F2, δ', _, R'.go g, hb, ?_⟩
    exact ⟨fun δ3 ⟨m', hm, q3⟩ F3 H3 σ3 s3 R3 => ⟨m', hm, F3, δ3, sm.trans (g.f.trans s3), R3, q3⟩, fun w δ3 q3 v F3 H3 σ3 s3 => k.rt w δ3 q3 v F3 H3 σ3 (sm.trans (g.f.trans s3)),
      fun δ3 q3 F3 H3 σ3 s3 => k.nx δ3 q3 F3 H3 σ3 (sm.trans (g.f.trans s3)), fun δ3 ⟨m', hm, q3⟩ F3 H3 σ3 s3 R3 => ⟨m', hm, F3, δ3, sm.trans (g.f.trans s3), R3, q3⟩⟩
  | false => exact k.nx _ hb F2 H2 _ (sm.trans g.f) (R'.go g)
end
end Vl
namespace Vl
open PySem PySem.Spec PyProof.Rows L2

/-! ### comprehensions -/
def wipeA (δ : List AV) : List Nat → List AV
  | [] => δ
  | v :: vs => (wipeA δ vs).set v .non
def lcGo (g : AG) (t : AT) (e : AE) (δ : List AV) : List D → List D → (W → Prop) → Prop
  | [], acc, Q => Q (.fr (.fl acc))
  | d :: ds, acc, Q => g d δ fun δ2 => t δ2 fun b => if b = true then e δ2 fun w => match argW w with
      | .cl y => acc.length < 1000000 ∧ lcGo g t e δ ds (acc ++ [y]) Q
      | _ => False
    else lcGo g t e δ ds acc Q
def aLc (ai : AI) (g : AG) (t : AT) (e : AE) (vs : List Nat) : AE := fun δ Q => ai δ fun ds => lcGo g t e (wipeA δ vs) ds [] Q
def aYes : AT := fun _ Q => Q true
section
variable {T : Tb} {X : Cx} {G : Gx} {F F' F1 H H' H1 : Hp} {σ σ' : L2.St} {δ : List AV} {p : Addr} {vs ks : List Nat}
theorem RepS.wipe (R : RepS T G F H σ δ) : ∀ vs : List Nat, RepS T G F H (wipe σ vs) (wipeA δ vs)
  | [] => R
  | v :: vs => by
    have R' := RepS.wipe R vs
    show RepS T G F H ((L2.wipe σ vs).set v none) ((wipeA δ vs).set v .non)
    refine ⟨R'.ex, R'.fr, R'.th, R'.lh, R'.f0, R'.fn, by rw [List.length_set, List.length_set]; exact R'.len, fun j => ?_, fun j k l l' m m' u w A B ne e1 e2 e3 e4 => ?_⟩
    · by_cases hi : v < (L2.wipe σ vs).length
      · have hi' : v < (wipeA δ vs).length := R'.len ▸ hi
        rw [gs_set hi, gt_set hi']
        by_cases e : v = j
        · rw [if_pos e, if_pos e]; trivial
        · rw [if_neg e, if_neg e]; exact R'.sl j
      · have hi' : ¬ v < (wipeA δ vs).length := R'.len ▸ hi
        rw [gs_out hi, gt_out hi']; exact R'.sl j
    · by_cases hi : v < (L2.wipe σ vs).length
      · have hi' : v < (wipeA δ vs).length := R'.len ▸ hi
        rw [gs_set hi] at e3 e4
        rw [gt_set hi'] at e1 e2
        by_cases ej : v = j
        · rw [if_pos ej] at e1; cases e1
        · by_cases ek : v = k
          · rw [if_pos ek] at e2; cases e2
          · rw [if_neg ej] at e1 e3; rw [if_neg ek] at e2 e4
            exact R'.dj j k l l' m m' u w A B ne e1 e2 e3 e4
      · have hi' : ¬ v < (wipeA δ vs).length := R'.len ▸ hi
        rw [gs_out hi] at e3 e4
        rw [gt_out hi'] at e1 e2
        exact R'.dj j k l l' m m' u w A B ne e1 e2 e3 e4
theorem Go.side {o : HO} (g : Go F H F' H') (hp : H p = none) (hf : F' p = none) : Go F H F' (upd H' p o) := by
  refine ⟨fun b x e => ?_, g.f, fun b x e => ?_, g.n⟩
  · rw [upd_ne (ne_of_none e hp)]; exact g.h _ _ e
  · rw [upd_ne (ne_of_none e hf)]; exact g.ex _ _ e
theorem wipe_keep (hk : ∀ i ∈ ks, i ∈ vs) (k : Keep ks (wipe σ vs) σ') : wipe σ' vs = wipe σ vs := by
  apply List.ext_getElem?
  intro i
  by_cases hi : i ∈ vs
  · have out : ∀ (τ : L2.St), τ.length = σ.length → (wipe τ vs)[i]? = if i < σ.length then some none else none := fun τ hl => by
      cases e : (wipe τ vs)[i]? with
      | none =>
        have := List.getElem?_eq_none_iff.mp e
        rw [wipe_length, hl] at this
        rw [if_neg (by omega)]
      | some x =>
        have := (List.getElem?_eq_some_iff.mp e).1
        rw [wipe_length, hl] at this
        rw [if_pos this]
        cases x with
        | none => rfl
        | some x => exact absurd hi (wipe_some e).2
    rw [out σ' (by rw [k.1, wipe_length]), out σ rfl]
  · rw [wipe_out hi, k.2 i fun h => hi (hk i h)]
def rdTs (T : Tb) (a : AT) : TT := rdT T a
theorem ts_nil {Y : Cx} : PTs Y [] (rdT T aYes) := ⟨fun pins s σ H Q I h => by
  obtain ⟨G, F, δ, P, R, h, k⟩ := h
  exact (pts_nil (X := Y)).run pins s σ H Q I (k _ h F H (Go.refl R.ex))⟩
theorem ts_one {Y : Cx} {c : Expr} {t : AT} (h : PT Y c (rdT T t)) : PTs Y [c] (rdT T t) := pts_one h
theorem rd_lc {ai : AI} {ag : AG} {t : AT} {e : AE} (hk : ∀ i ∈ ks, i ∈ vs) {Q : VK} (h : rdE T (aLc ai ag t e vs) σ H Q) : tLc (rdI T ai) (rdG T ks ag) (rdT T t) (rdE T e) vs σ H Q := by
  obtain ⟨G, F, δ, P, R, h, k⟩ := h
  refine ⟨G, F, δ, _, R, h, fun ds hd J F1 H1 g W => fun DD hD => ?_⟩
  obtain ⟨Gd, Y, w, stb, yy⟩ := W
  have R1 := R.go g
  have hD0 : H DD = none := g.h.free hD
  have h00 : G.H0 DD = none := Classical.byContradiction fun q => R.th DD q hD0
  have hL : DD ∉ G.L := fun q => R.lh DD q h00
  have Rw := R1.wipe vs
  have next : ∀ {F' H' : Hp} {acc : List D} {accV : List V} {y : D} {v : V} {i : Nat}, Go F1 H1 F' H' → F' DD = none → H' DD = some (.lst accV) → Reps T F' accV acc → Rep T F' v y → lcGo ag t e (wipeA δ vs) (ds.drop (i + 1)) (acc ++ [y]) P →
      ∃ F2 acc accV2, Go F1 H1 F2 (upd H' DD (.lst (accV ++ [v]))) ∧ F2 DD = none ∧ (upd H' DD (.lst (accV ++ [v]))) DD = some (.lst accV2) ∧ Reps T F2 accV2 acc ∧ lcGo ag t e (wipeA δ vs) (ds.drop (i + 1)) acc P :=
    fun {F' H' acc accV y v i} g1 f1 h1 r1 ry q => ⟨F', acc ++ [y], accV ++ [v], g1.side hD f1, f1, upd_same, r1.snoc ry, q⟩
  have hRR : ∀ {F' H' : Hp}, Go F1 H1 F' H' → F' DD = none → RepS T G F' H' (wipe σ vs) (wipeA δ vs) := fun g1 _ => Rw.go g1
  refine lc_it w (fun i H' => ∃ F' acc accV, Go F1 H1 F' H' ∧ F' DD = none ∧ H' DD = some (.lst accV) ∧ Reps T F' accV acc ∧ lcGo ag t e (wipeA δ vs) (ds.drop i) acc P) ⟨F1, [], [], (Go.refl g.ex).lay hD, g.ex.free hD, upd_same, .nil, hd⟩
    (fun i H' _ ⟨F', _, _, g1, _⟩ => stb F' H' _ _ g1.f (Rw.go g1)) ?_ ?_
  · rintro i x H' H2 hi ⟨F', acc, accV, g1, f1, h1, r1, hq⟩ hy
    have R' := Rw.go g1
    obtain ⟨rfl, d, hd, rd⟩ := yy i H' x H2 hi (stb F' H' _ _ g1.f R') hy
    have e1 : ds.drop i = d :: ds.drop (i + 1) := by
      obtain ⟨hl, he⟩ := List.getElem?_eq_some_iff.mp hd
      rw [List.drop_eq_getElem_cons hl, he]
    rw [e1] at hq
    unfold lcGo at hq
    refine ⟨G, F', _, _, d, R', rd F' g1.f g1.ex, hq, fun δ2 q σ2 kp R2 => ⟨wipe_keep hk kp, ?_⟩⟩
    refine ⟨G, F', δ2, _, R2, q, fun b hb F3 H3 g3 => ?_⟩
    have f3 : F3 DD = none := (g3.n DD (by rw [h1]; simp) (nt_of h1)).trans f1
    have h3 : H3 DD = some (.lst accV) := g3.h _ _ h1
    cases b with
    | true =>
      rw [if_pos rfl] at hb
      refine iteT ?_
      refine ⟨G, F3, δ2, _, R2.go g3, hb, fun w hw v F4 H4 g4 r4 => ?_⟩
      obtain ⟨F5, g5, _, s5, r5, n5⟩ := RepW.arg g4 r4
      split at hw
      · rename_i y hy
        rw [hy] at r5
        have h5 : H4 DD = some (.lst accV) := g4.h _ _ h3
        have f5 : F5 DD = none := (g5.n DD (by rw [h3]; simp) (nt_of h3)).trans f3
        exact ⟨accV, h5, by rw [r1.length]; exact dSz_lt hw.1, next (g1.trans (g3.trans g5)) f5 h5 (r1.mono (g3.f.trans g5.f)) r5 hw.2⟩
      · exact hw.elim
    | false =>
      rw [if_neg Bool.false_ne_true] at hb
      refine iteF ?_
      exact ⟨F3, acc, accV, g1.trans g3, f3, h3, r1.mono g3.f, hb⟩
  · rintro H' ⟨F', acc, accV, g1, f1, h1, r1, hq⟩
    rw [List.drop_length] at hq
    unfold lcGo at hq
    exact k _ hq _ F' H' (g.trans g1) ⟨[DD], .fl h1 f1 r1, fun a q => by rw [List.mem_singleton.mp q]; exact hD0⟩
theorem e_lc {elt tg iter : Expr} {ifs : List Expr} {scope : Scope} {own : List (Str × Nat)} {pos : Pos} {ai : AI} {ag : AG} {t : AT} {e : AE} (hc : X.calm = true) (hN : X.N.Nodup) (hi : PI X tg iter (rdI T ai)) (ok : BlkOk X.N X.env.scope scope own) (hk : ∀ i ∈ ks, i ∈ own.map (·.2))
    (hg : ∀ (s : Shared) (H : Hp) (C : Addr) (cl : List (Str × Addr)) (fp : List Addr), PG (X.blk s H scope (compEnvC scope cl C X.env) fp) tg (rdG T ks ag)) (ht : ∀ (s : Shared) (H : Hp) (C : Addr) (cl : List (Str × Addr)) (fp : List Addr), PTs (X.blk s H scope (compEnvC scope cl C X.env) fp) ifs (rdT T t))
    (he : ∀ (s : Shared) (H : Hp) (C : Addr) (cl : List (Str × Addr)) (fp : List Addr), PE (X.blk s H scope (compEnvC scope cl C X.env) fp) elt (rdE T e)) (hs : ∀ x, foldedSetIterable iter X.env x = pure x := by intro _; rfl) :
    PE X (.ListComp elt [⟨tg, iter, ifs, 0⟩] scope pos) (rdE T (aLc ai ag t e (own.map (·.2)))) := (pe_lc hc hN hi ok hg ht he hs).mono fun _ _ _ h => rd_lc hk h
theorem s_setLc {i : Nat} {y : Str} {py : Pos} {elt tg iter : Expr} {ifs : List Expr} {scope : Scope} {own : List (Str × Nat)} {pos spos : Pos} {ai : AI} {ag : AG} {t : AT} {e : AE} (hc : X.calm = true) (hN : X.N.Nodup) (hy : X.N[i]? = some y) (hyl : X.env.scope.names.lookup y = some .local)
    (hsw : swapsWith (.ListComp elt [⟨tg, iter, ifs, 0⟩] scope pos) (some (.Name y py)) spos.line X.env = pure true) (hi : PI X tg iter (rdI T ai)) (ok : BlkOk X.N X.env.scope scope own) (hk : ∀ i ∈ ks, i ∈ own.map (·.2))
    (hg : ∀ (s : Shared) (H : Hp) (C : Addr) (cl : List (Str × Addr)) (fp : List Addr), PG (X.blk s H scope (compEnvC scope cl C X.env) fp) tg (rdG T ks ag)) (ht : ∀ (s : Shared) (H : Hp) (C : Addr) (cl : List (Str × Addr)) (fp : List Addr), PTs (X.blk s H scope (compEnvC scope cl C X.env) fp) ifs (rdT T t))
    (he : ∀ (s : Shared) (H : Hp) (C : Addr) (cl : List (Str × Addr)) (fp : List Addr), PE (X.blk s H scope (compEnvC scope cl C X.env) fp) elt (rdE T e)) (hs : ∀ x, foldedSetIterable iter X.env x = pure x := by intro _; rfl) :
    PS X (.Assign [.Name y py] (.ListComp elt [⟨tg, iter, ifs, 0⟩] scope pos) spos) (rdS T (aSet i (aLc ai ag t e (own.map (·.2))))) := (ps_setLc hc hN hy hyl hsw hi ok hg ht he hs).mono fun D σ H h => by
  obtain ⟨G, F, δ, E, R, h, k⟩ := h
  refine rd_lc hk ⟨G, F, δ, _, R, h, fun w hw v F1 H1 g r => ?_⟩
  split at hw
  · rename_i a ha
    exact k.nx _ hw F1 H1 _ g.f (R.store g r ha)
  · exact hw.elim
end

/-! ### slices -/
def cutD (ds : List D) (lo hi : Option Int) : List D := (ds.drop (HT.sIx ds.length 0 lo)).take (HT.sIx ds.length ds.length hi - HT.sIx ds.length 0 lo)
abbrev AO := List AV → (Option Int → Prop) → Prop
def aoN : AO := fun _ Q => Q none
def aoS (e : AE) : AO := fun δ Q => e δ fun w => match w with
  | .cl (.int i) => Q (some i)
  | _ => False
def aSl (e : AE) (lo hi : AO) : AE := fun δ Q => e δ fun w => lo δ fun l => hi δ fun h => match lstC w with
  | some ds => Q (.fr (.fl (cutD ds l h)))
  | none => False
def rdO (T : Tb) (a : AO) : TO := fun σ H Q => ∃ G F δ P, RepS T G F H σ δ ∧ a δ P ∧ ∀ o, P o → ∀ F' H', Go F H F' H' → Q o H'
theorem _root_.L2.PO.mono {X : Cx} {e : Option Expr} {t t' : TO} (h : PO X e t) (k : ∀ σ H Q, t' σ H Q → t σ H Q) : PO X e t' := by
  constructor
  intro pins s σ H Q I q
  exact h.run pins s σ H Q I (k σ H Q q)
section
variable {T : Tb} {X : Cx} {e : Expr} {x : AE} {pos p2 : Pos}
theorem o_none : PO X none (rdO T aoN) := po_none.mono fun σ H Q h => by
  obtain ⟨G, F, δ, P, R, h, k⟩ := h
  exact k _ h F H (Go.refl R.ex)
theorem o_some (h : PE X e (rdE T x)) : PO X (some e) (rdO T (aoS x)) := (po_some h).mono fun σ H Q h => by
  obtain ⟨G, F, δ, P, R, h, k⟩ := h
  refine ⟨G, F, δ, _, R, h, fun w hw v F1 H1 g r => ?_⟩
  split at hw
  · exact ⟨_, rep_int r, k _ hw _ _ g⟩
  · exact hw.elim
theorem e_sl {lo hi : Option Expr} {l h : AO} (hTK : T.K = X.K) (he : PE X e (rdE T x)) (hl : PO X lo (rdO T l)) (hh : PO X hi (rdO T h)) : PE X (.Subscript e (.Slice lo hi none p2) pos) (rdE T (aSl x l h)) := (pe_slice sl_list he hl hh).mono fun σ H Q h => by
  obtain ⟨G, F, δ, P, R, h, k⟩ := h
  refine ⟨G, F, δ, _, R, h, fun w hw v F1 H1 g r => ?_⟩
  refine ⟨G, F1, δ, _, R.go g, hw, fun lo hlo F2 H2 g2 => ?_⟩
  refine ⟨G, F2, δ, _, (R.go g).go g2, hlo, fun hi hhi F3 H3 g3 => ?_⟩
  split at hhi
  · rename_i ds hd
    have g13 := g2.trans g3
    obtain ⟨p, vs, rfl, hp, rr⟩ := (r.go g13).lst g13.ex hd
    refine ⟨p, vs, rfl, hTK ▸ hp, fun q hq => ?_⟩
    refine new_list (ds := cutD ds lo hi) (g.trans g13) ?_ hhi k hq
    unfold cutV cutD
    rw [rr.length]
    exact (rr.drop _).take _
  · exact hhi.elim
end

/-! ### a chain of two comparisons of ints -/
def aChain (p p' : Int → Int → Bool) (a b c : AE) : AE := fun δ Q => a δ fun x => match x with
  | .cl (.int i) => b δ fun y => match y with
    | .cl (.int j) => if p i j = true then c δ fun z => match z with
        | .cl (.int k) => Q (.cl (.bl (p' j k)))
        | _ => False
      else Q (.cl (.bl false))
    | _ => False
  | _ => False
section
variable {T : Tb} {X : Cx} {a b c : Expr} {x y z : AE} {pos : Pos} {p p' : Int → Int → Bool}
theorem rd_chain {σ : L2.St} {H : Hp} {Q : VK} (h : rdE T (aChain p p' x y z) σ H Q) : tChain (rI0 fun i j => .bl (p i j)) (rI0 fun i j => .bl (p' i j)) (rdE T x) (rdE T y) (rdE T z) σ H Q := by
  obtain ⟨G, F, δ, P, R, h, k⟩ := h
  refine ⟨G, F, δ, _, R, h, fun u hu v F1 H1 g r1 => ?_⟩
  split at hu
  · rename_i i
    refine ⟨G, F1, δ, _, R.go g, hu, fun u2 hu2 v2 F2 H2 g2 r2 => ?_⟩
    split at hu2
    · rename_i j
      refine ⟨i, j, rep_int r1, rep_int r2, p i j, rfl, ?_⟩
      cases hp : p i j with
      | true =>
        rw [hp, if_pos rfl] at hu2
        refine iteT ⟨G, F2, δ, _, (R.go g).go g2, hu2, fun u3 hu3 v3 F3 H3 g3 r3 => ?_⟩
        split at hu3
        · rename_i l
          exact ⟨j, l, rep_int r2, rep_int r3, k _ hu3 _ F3 H3 (g.trans (g2.trans g3)) (.bl _)⟩
        · exact hu3.elim
      | false =>
        rw [hp, if_neg Bool.false_ne_true] at hu2
        exact iteF (k _ hu2 _ F2 H2 (g.trans g2) (.bl _))
    · exact hu2.elim
  · exact hu.elim
theorem e_chain {op op' : CmpOp} (ho : OpR X (compareOp op) (rI0 fun i j => .bl (p i j))) (ho' : OpR X (compareOp op') (rI0 fun i j => .bl (p' i j))) (ha : PE X a (rdE T x)) (hb : PE X b (rdE T y)) (hc : PE X c (rdE T z))
    (hm : lastMarks [op, op'] [b, c] = false := by rfl) : PE X (.Compare a [op, op'] [b, c] pos) (rdE T (aChain p p' x y z)) := (pe_chain ho ho' ha hb hc hm).mono fun σ H Q h => rd_chain h
theorem t_chain {op op' : CmpOp} (ho : OpR X (compareOp op) (rI0 fun i j => .bl (p i j))) (ho' : OpR X (compareOp op') (rI0 fun i j => .bl (p' i j))) (ha : PE X a (rdE T x)) (hb : PE X b (rdE T y)) (hc : PE X c (rdE T z))
    (hm : lastMarks [op, op'] [b, c] = false := by rfl) : PT X (.Compare a [op, op'] [b, c] pos) (rdT T (aB (aChain p p' x y z))) := (pt_chain ho ho' ha hb hc hm).mono fun σ H Q h => by
  obtain ⟨G, F, δ, P, R, h, k⟩ := h
  refine rd_chain ⟨G, F, δ, _, R, h, fun w hw v F1 H1 g r => ?_⟩
  split at hw
  · exact ⟨_, rep_bl r, k _ hw _ _ g⟩
  · exact hw.elim
end

/-! ### own lists and dicts are changed -/
def tyM : M → String
  | .fl _ => "list"
  | .tl _ => "list"
  | .fd _ _ _ => "dict"
  | .td _ _ _ => "dict"
  | .cl _ => ""
  | .ti _ _ => ""
  | .tp _ => ""
  | .nd _ => ""
/-- what stands at A has changed, new things may have come; the clean part F is as it was -/
structure Chg (F H : Hp) (A : List Addr) (H' : Hp) : Prop where
  ex : Same F H'
  fr : ∀ a, a ∉ A → H a ≠ none → H' a = H a
  th : ∀ a, H a ≠ none → H' a ≠ none
/-- a method of an own object: what it becomes, what is handed back -/
abbrev FM := M → List W → (M → D → Prop) → Prop
def MutV (T : Tb) (r : V → List V → Hp → VK → Prop) (f : FM) : Prop := ∀ (G : Gx) (F H : Hp) (v : V) (m : M) (A : List Addr) (xs : List V) (ws : List W) (P : M → D → Prop) (Q : VK), Same F H → Own T F H v m A → RepAs T G F H xs ws → f m ws P →
  (∀ m' d, P m' d → ∀ z H' A', Chg F H A H' → Own T F H' v m' A' → (∀ a ∈ A', a ∈ A) → Rep T F z d → Q z H') → r v xs H Q
/-- x.m(..) as a statement of its own -/
def aMut (ty : String) (i : Nat) (f : FM) (es : AA) : AS := fun E δ => match gt δ i with
  | .ow l m => tyM m = ty ∧ es δ fun ws => f m ws fun m' _ => E.nx (δ.set i (.ow l m'))
  | _ => False
/-- y = x.m(..) -/
def aMutS (ty : String) (j i : Nat) (f : FM) (es : AA) : AS := fun E δ => match gt δ i with
  | .ow l m => tyM m = ty ∧ es δ fun ws => f m ws fun m' d => E.nx ((δ.set i (.ow l m')).set j (.im d))
  | _ => False
def clW : W → Option D := fun w => match argW w with
  | .cl d => some d
  | _ => none
/-- xs[k] = e -/
def aSetIx (i : Nat) (k e : AE) : AS := fun E δ => match gt δ i with
  | .ow l (.fl ds) => e δ fun w => k δ fun z => match clW w, z with
    | some d, .cl (.int z) => match ixN ds.length z with
      | some j => E.nx (δ.set i (.ow l (.fl (ds.set j d))))
      | none => False
    | _, _ => False
  | _ => False
def mAppend : FM := fun m ws P => match m, ws with
  | .fl ds, [.cl d] => ds.length < 1000000 ∧ P (.fl (ds ++ [d])) .non
  | _, _ => False
def mPop : FM := fun m ws P => match m, ws with
  | .fl ds, [] => match ds[ds.length - 1]? with
    | some d => P (.fl ds.dropLast) d
    | none => False
  | _, _ => False
def mPopAt : FM := fun m ws P => match m, ws with
  | .fl ds, [.cl (.int i)] => (0 ≤ i ∧ i < 2 ^ 63) ∧ match ds[i.toNat]? with
    | some d => P (.fl (ds.eraseIdx i.toNat)) d
    | none => False
  | _, _ => False
def mReverse : FM := fun m ws P => match m, ws with
  | .fl ds, [] => P (.fl ds.reverse) .non
  | _, _ => False
section
variable {T : Tb} {X : Cx} {G : Gx} {F H : Hp} {σ : L2.St} {δ : List AV} {l : Bool} {m : M} {i j : Nat} {Ty : String} {r : V → List V → Hp → VK → Prop} {f : FM} {xs : AA} {A : List Addr} {v : V}
theorem chg_upd {p : Addr} {o : HO} (ex : Same F H) (hp : p ∈ A) (hf : F p = none) : Chg F H A (upd H p o) := by
  refine ⟨fun a x e => ?_, fun a ha _ => upd_ne fun z => ha (z ▸ hp), fun a h1 => ?_⟩
  · rw [upd_ne (ne_of_none e hf)]; exact ex _ _ e
  · by_cases q : a = p
    · subst q; rw [upd_same]; simp
    · rw [upd_ne q]; exact h1
theorem dct_tyV {K : PySem.W.Frag} {t : Bool} {o : HO} {ks : List (List Key)} {vs : List V} {p : Addr} (d : DctO t o ks vs) (h : H p = some o) : tyV K "dict" (.ref p) H := by
  refine .inr (.inr (.inl ⟨rfl, ?_⟩))
  cases t
  · obtain ⟨_, kvs, rfl, _⟩ := d; exact .inl ⟨_, h⟩
  · obtain ⟨_, kvs, rfl, _⟩ := d; exact .inr ⟨_, h⟩
theorem ty_own {K : PySem.W.Frag} (h : Own T F H v m A) (ht : tyM m = Ty) (hT : Ty ≠ "") : tyV K Ty v H := by
  cases h with
  | cl r => exact absurd ht.symm hT
  | fl h f r => subst ht; exact .inl ⟨rfl, _, SqL.of h⟩
  | fd h f d r => subst ht; exact dct_tyV d h
  | tl h f x r => subst ht; exact .inl ⟨rfl, _, SqL.of h⟩
  | td h f d x r => subst ht; exact dct_tyV d h
  | ti h f d x r => exact absurd ht.symm hT
  | tp h x r => exact absurd ht.symm hT
  | nd q h f r => exact absurd ht.symm hT
theorem RepS.chg {A' : List Addr} {H' : Hp} {m' : M} (R : RepS T G F H σ δ) (e : gt δ i = .ow l m) (hv : gs σ i = some v) (hA : Own T F H v m A) (c : Chg F H A H') (o : Own T F H' v m' A') (hA' : ∀ a ∈ A', a ∈ A) : RepS T G F H' σ (δ.set i (.ow l m')) :=
  R.step (Go.refl R.ex) e hv hA c.ex (Same.refl _) (fun _ _ _ _ => rfl) c.fr c.th o fun a q => .inl (hA' a q)
theorem rd_mut (hf : MutV T r f) {P : M → D → Prop} {K : PySem.W.Frag} (hTK : T.K = K) (hT : Ty ≠ "") (R : RepS T G F H σ δ) (hg : gt δ i = .ow l m) (ht : tyM m = Ty) (h : xs δ fun ws => f m ws P) {Q : VK}
    (k : ∀ m' d, P m' d → ∀ v F' H', Same F F' → RepS T G F' H' σ (δ.set i (.ow l m')) → Rep T F' v d → Q v H') :
    tBM K Ty r (tVar i) (rdA T xs) σ H Q := by
  obtain ⟨v, A, e, ow, _⟩ := R.own hg
  refine ⟨v, gs_some e, ty_own ow ht hT, ?_⟩
  refine ⟨G, F, δ, _, R, h, fun ws hw vs F1 H1 g ra => ?_⟩
  have R1 := R.go g
  refine hf G F1 H1 v m A vs ws P Q g.ex (ow.go g) ra hw fun m' d hP z H' A' c o' hA' rv => ?_
  exact k m' d hP z F1 _ g.f (R1.chg hg e (ow.go g) c o' hA') rv
theorem rd_mut0 (hf : MutV T r f) {P : M → D → Prop} {K : PySem.W.Frag} (hT : Ty ≠ "") (R : RepS T G F H σ δ) (hg : gt δ i = .ow l m) (ht : tyM m = Ty) (h : f m [] P) {Q : VK}
    (k : ∀ m' d, P m' d → ∀ v F' H', Same F F' → RepS T G F' H' σ (δ.set i (.ow l m')) → Rep T F' v d → Q v H') :
    tBM0 K Ty r (tVar i) σ H Q := by
  obtain ⟨v, A, e, ow, _⟩ := R.own hg
  refine ⟨v, gs_some e, ty_own ow ht hT, ?_⟩
  refine hf G F H v m A [] [] P Q R.ex ow .nil h fun m' d hP z H' A' c o' hA' rv => ?_
  exact k m' d hP z F _ (Same.refl _) (R.chg hg e ow c o' hA') rv
variable {st : Stmt} {K : PySem.W.Frag}
theorem s_mut (hf : MutV T r f) (hTK : T.K = K) (h : PS X st (tDrop (tBM K Ty r (tVar i) (rdA T xs)))) (hT : Ty ≠ "" := by decide) : PS X st (rdS T (aMut Ty i f xs)) := h.mono fun D' σ H h => by
  obtain ⟨G, F, δ, E, R, h, k⟩ := h
  unfold aMut at h
  split at h
  · rename_i l m hg
    exact rd_mut hf hTK hT R hg h.1 h.2 fun m' d hP v F' H' s R' _ => k.nx _ hP F' H' _ s R'
  · exact h.elim
theorem s_mut0 (hf : MutV T r f) (h : PS X st (tDrop (tBM0 K Ty r (tVar i)))) (hT : Ty ≠ "" := by decide) : PS X st (rdS T (aMut Ty i f aNil)) := h.mono fun D' σ H h => by
  obtain ⟨G, F, δ, E, R, h, k⟩ := h
  unfold aMut at h
  split at h
  · rename_i l m hg
    exact rd_mut0 hf hT R hg h.1 h.2 fun m' d hP v F' H' s R' _ => k.nx _ hP F' H' _ s R'
  · exact h.elim
theorem s_mutS (hf : MutV T r f) (hTK : T.K = K) (h : PS X st (tAsg (tBM K Ty r (tVar i) (rdA T xs)) (gName j))) (hT : Ty ≠ "" := by decide) : PS X st (rdS T (aMutS Ty j i f xs)) := h.mono fun D' σ H h => by
  obtain ⟨G, F, δ, E, R, h, k⟩ := h
  unfold aMutS at h
  split at h
  · rename_i l m hg
    exact rd_mut hf hTK hT R hg h.1 h.2 fun m' d hP v F' H' s R' rv => k.nx _ hP F' H' _ s (R'.put (a := .im d) ⟨v, rfl, rv⟩ fun _ _ e => nomatch e)
  · exact h.elim
theorem s_mutS0 (hf : MutV T r f) (h : PS X st (tAsg (tBM0 K Ty r (tVar i)) (gName j))) (hT : Ty ≠ "" := by decide) : PS X st (rdS T (aMutS Ty j i f aNil)) := h.mono fun D' σ H h => by
  obtain ⟨G, F, δ, E, R, h, k⟩ := h
  unfold aMutS at h
  split at h
  · rename_i l m hg
    exact rd_mut0 hf hT R hg h.1 h.2 fun m' d hP v F' H' s R' rv => k.nx _ hP F' H' _ s (R'.put (a := .im d) ⟨v, rfl, rv⟩ fun _ _ e => nomatch e)
  · exact h.elim
theorem m_append : MutV T rAppend mAppend := by
  intro G F H v m A xs ws P Q sm ow ra h k
  unfold mAppend at h
  split at h
  · rename_i ds d
    obtain ⟨p, vs, rfl, rfl, ho, hf, r⟩ := own_fl ow
    cases ra with
    | cons r2 t =>
      cases t
      exact ⟨p, vs, _, rfl, rfl, ho, by rw [r.length]; exact dSz_lt h.1, k _ _ h.2 _ _ _ (chg_upd sm List.mem_cons_self hf) (.fl upd_same hf (r.snoc r2)) (fun _ q => q) .non⟩
  · exact h.elim
theorem m_pop : MutV T rPop mPop := by
  intro G F H v m A xs ws P Q sm ow ra h k
  unfold mPop at h
  split at h
  · rename_i ds
    obtain ⟨p, vs, rfl, rfl, ho, hf, r⟩ := own_fl ow
    cases ra
    split at h
    · rename_i d hd
      obtain ⟨v, hv, rv⟩ := r.getD hd
      rw [← r.length] at hv
      exact ⟨p, vs, v, rfl, rfl, ho, hv, k _ _ h _ _ _ (chg_upd sm List.mem_cons_self hf) (.fl upd_same hf r.dropLast) (fun _ q => q) rv⟩
    · exact h.elim
  · exact h.elim
theorem m_popAt : MutV T rPopAt mPopAt := by
  intro G F H v m A xs ws P Q sm ow ra h k
  unfold mPopAt at h
  split at h
  · rename_i ds i
    obtain ⟨p, vs, rfl, rfl, ho, hf, r⟩ := own_fl ow
    obtain ⟨⟨h0, h1⟩, h⟩ := h
    split at h
    · rename_i d hd
      obtain ⟨v, hv, rv⟩ := r.getD hd
      have hl : i.toNat < vs.length := (List.getElem?_eq_some_iff.mp hv).1
      have hx : ixN vs.length i = some i.toNat := by
        unfold ixN
        rw [if_pos h0, if_pos (by omega)]
      cases ra with
      | cons r2 t =>
        cases t
        exact ⟨p, vs, i, i.toNat, v, rfl, by rw [rep_int r2], ho, by omega, h1, (ixN_seq hx).1, hv, k _ _ h _ _ _ (chg_upd sm List.mem_cons_self hf) (.fl upd_same hf (r.eraseIdx _)) (fun _ q => q) rv⟩
    · exact h.elim
  · exact h.elim
theorem m_reverse : MutV T rReverse mReverse := by
  intro G F H v m A xs ws P Q sm ow ra h k
  unfold mReverse at h
  split at h
  · rename_i ds
    obtain ⟨p, vs, rfl, rfl, ho, hf, r⟩ := own_fl ow
    cases ra
    exact ⟨p, vs, rfl, rfl, ho, k _ _ h _ _ _ (chg_upd sm List.mem_cons_self hf) (.fl upd_same hf r.reverse) (fun _ q => q) .non⟩
  · exact h.elim
theorem clW_rep {F' H' : Hp} {v : V} {w : W} {d : D} (g : Go F H F' H') (r : RepW T G H F' H' v w) (h : clW w = some d) : ∃ F2, Go F H F2 H' ∧ Rep T F2 v d := by
  obtain ⟨F2, g2, _, _, r2, _⟩ := RepW.arg g r
  unfold clW at h
  split at h
  · rename_i d' hd
    cases h
    rw [hd] at r2
    exact ⟨F2, g2, r2⟩
  · cases h
theorem s_setIx {x kk : AE} (h : PS X st (tAsg (rdE T x) (gSub (tVar i) (rdE T kk) rSetL))) : PS X st (rdS T (aSetIx i kk x)) := h.mono fun D' σ H h => by
  obtain ⟨G, F, δ, E, R, h, k⟩ := h
  unfold aSetIx at h
  split at h
  · rename_i l ds hg
    refine ⟨G, F, δ, _, R, h, fun w hw v F1 H1 g r1 => ?_⟩
    obtain ⟨u, A, e, ow, _⟩ := (R.go g).own hg
    refine ⟨u, gs_some e, G, F1, δ, _, R.go g, hw, fun z hz kv F2 H2 g2 r2 => ?_⟩
    split at hz
    · rename_i d z hd
      split at hz
      · rename_i j hj
        obtain ⟨F3, g3, r3⟩ := clW_rep (g.trans g2) ((r1.go g2)) hd
        have R3 := R.go g3
        obtain ⟨u', A', e', ow', _⟩ := R3.own hg
        rw [e] at e'
        cases e'
        obtain ⟨p, vs, rfl, rfl, ho, hf, rr⟩ := own_fl ow'
        exact ⟨p, vs, z, j, rfl, rep_int r2, ho, by rw [rr.length]; exact hj, k.nx _ hz F3 _ σ g3.f (R3.chg hg e ow' (chg_upd R3.ex List.mem_cons_self hf) (.fl upd_same hf (Reps.set j rr r3)) fun _ q => q)⟩
      · exact hz.elim
    · exact hz.elim
  · exact h.elim
end
end Vl
namespace Vl
open PySem PySem.Spec PyProof.Rows L2

/-! ### what a def promises -/
/-- from the arguments to what is wanted of the answer -/
abbrev Ct := List W → (W → Prop) → Prop
def spC (T : Tb) (c : Ct) : Sp := fun vs H Q _ => ∃ G F ws P, Same F H ∧ RepAs T G F H vs ws ∧ c ws P ∧ ∀ w, P w → ∀ v F' H', Go F H F' H' → RepR T H F' H' v w → Q v H'
def aCall (c : Ct) (es : AA) : AE := fun δ Q => es δ fun ws => c ws Q
def avOf : W → AV
  | .cl d => .im d
  | .bw m => .bw m
  | .ow m => .bw m
  | .fr _ => .non
def startA (n : Nat) (ws : List W) : List AV := ws.map avOf ++ List.replicate (n - ws.length) .non
section
variable {T : Tb} {X : Cx} {G : Gx} {F F' H H' Hs : Hp} {v : V} {w : W}
theorem RepR.toW : ∀ {w : W}, RepR T H F' H' v w → RepW T G H F' H' v w
  | .cl d, h => h
  | .fr m, h => h
  | .bw m, h => h.elim
  | .ow m, h => h.elim
theorem RepAs.length : ∀ {vs : List V} {ws : List W}, RepAs T G F H vs ws → vs.length = ws.length
  | _, _, .nil => rfl
  | _, _, .cons _ t => by simp [RepAs.length t]
theorem RepAs.get : ∀ {vs : List V} {ws : List W} {i : Nat} {w : W}, RepAs T G F H vs ws → ws[i]? = some w → ∃ v, vs[i]? = some v ∧ RepA T G F H v w
  | _, _, _, _, .nil, h => by simp at h
  | _, _, 0, _, .cons r _, h => by simp at h; subst h; exact ⟨_, rfl, r⟩
  | _, _, i + 1, _, .cons _ t, h => by simpa using RepAs.get (i := i) t (by simpa using h)
theorem rd_call {c : Ct} {xs : AA} {E : XK} {σ : L2.St} {Q : VK} (h : rdE T (aCall c xs) σ H Q) : tCall (spC T c) [] E (rdA T xs) σ H Q := by
  obtain ⟨G, F, δ, P, R, h, k⟩ := h
  refine ⟨G, F, δ, _, R, h, fun ws hw vs F1 H1 g r => ?_⟩
  show spC T c (vs ++ []) H1 Q E
  rw [List.append_nil]
  exact ⟨G, F1, ws, P, g.ex, r, hw, fun w hP v F2 H2 g2 r2 => k w hP v F2 H2 (g.trans g2) ((RepR.toW r2).back g.h)⟩
variable {k : Nat} {f C : Addr} {fd : FuncData} {ps : List Str} {x : Str} {p pos apos : Pos} {e o : Expr} {es : List Expr} {c : Ct} {xs : AA}
theorem e_call (Fn : FnOk X.prog X.w X.K X.mg X.base CX0 k f fd ps (spC T c)) (hr : Room k X.A) (hg : Gl X x) (hm : X.mg x = some (.ref f)) (hk : PySem.W.keepIn X.K (.ref f) = true) (hb : Binds X.K fd ps [])
    (ha : PA X (e :: es) (rdA T xs)) (hdb : (x == ("__debug__" : Str)) = false := by decide) (he : starEach (e :: es) X.env = (false, eval e X.env) :: starEach es X.env := by rfl) (hpl : (backTo pos (starEach es X.env)).any (·.1) = false := by rfl) :
    PE X (.Call (.Name x p) (e :: es) [] pos) (rdE T (aCall c xs)) :=
  (pe_call Fn hr hg hm hk hb .nil (E := E0) pass0 ha hdb he hpl).mono fun _ _ _ h => rd_call h
/-- the slots at the start -/
theorem repS_start {N : Nat} {vs : List V} {ws : List W} (sm : Same F H) (r : RepAs T G F H vs ws) (hN : ws.length ≤ N) (Nm : List Str) (hNm : Nm.length = N) : RepS T ⟨H, F, [], .non⟩ F H (L2.start Nm vs) (startA N ws) := by
  have hl := r.length
  have hst : ∀ i, gs (L2.start Nm vs) i = vs[i]? := fun i => by
    unfold gs L2.start
    rw [List.getD_eq_getElem?_getD]
    by_cases hi : i < vs.length
    · rw [List.getElem?_append_left (by simpa using hi), List.getElem?_map]
      cases vs[i]? <;> rfl
    · rw [List.getElem?_append_right (by simpa using hi), List.getElem?_replicate, List.getElem?_eq_none_iff.mpr (by omega)]
      split <;> rfl
  have hgt : ∀ i, gt (startA N ws) i = ((ws[i]?).map avOf).getD .non := fun i => by
    unfold gt startA
    rw [List.getD_eq_getElem?_getD]
    by_cases hi : i < ws.length
    · rw [List.getElem?_append_left (by simpa using hi), List.getElem?_map]
    · rw [List.getElem?_append_right (by simpa using hi), List.getElem?_replicate, List.getElem?_eq_none_iff.mpr (show ws.length ≤ i by omega)]
      split <;> rfl
  refine ⟨sm, fun a o h _ => h, fun a h => h, fun a h => by simp at h, Same.refl _, fun a _ _ _ => rfl, ?_, fun i => ?_, fun i j l l' m m' u w A B ne e1 => ?_⟩
  · unfold startA L2.start
    simp [hl, hNm]
  · rw [hst, hgt]
    cases e : ws[i]? with
    | none => trivial
    | some w =>
      obtain ⟨v, hv, rv⟩ := r.get e
      rw [hv]
      cases w with
      | cl d => exact ⟨v, rfl, rv⟩
      | bw m =>
        obtain ⟨A, o, _⟩ := rv
        exact ⟨v, A, rfl, o, fun a q => ⟨by simp, (o.mem a q).1⟩⟩
      | ow m =>
        obtain ⟨A, o⟩ := rv
        exact ⟨v, A, rfl, o, fun a q => ⟨by simp, (o.mem a q).1⟩⟩
      | fr m => exact rv.elim
  · rw [hgt] at e1
    cases e : ws[i]? with
    | none => rw [e] at e1; cases e1
    | some w => rw [e] at e1; cases w <;> cases e1
variable {P : Program} {wd : World} {K : PySem.W.Frag} {mg : Str → Option Value} {base : Heap}
/-- THE RULE for a def: its body's reading over data, and what it comes to -/
theorem fn_ok {y qual : Str} {st : Stmt} {N ps : List Str} {a : AS} (Fn : Fun K y qual st f fd) (S : FnScope N ps (defScope st)) (len : ∀ ws P, c ws P → ws.length = ps.length) (hN : ps.length ≤ N.length)
    (hd : ∀ (cdv : Value) (A : Around) (outer : List Env) (s : Shared) (H : Hp) (E : XK), Room k (A.deeper (envOfC qual (defScope st) s.heap.objs.size f cdv)) →
      PSs (cxOf CX0 P wd K mg base N qual (defScope st) f cdv A outer s H E).nox (defBody st) (rdS T a))
    (hw : ∀ ws P, c ws P → a { nx := fun _ => P (.cl .non), rt := fun w _ => P w } (startA N.length ws)) : FnOk P wd K mg base CX0 (k + 1) f fd ps (spC T c) := by
  refine Fn.ok S (fun vs H Q E h => ?_) (fun cdv A outer s H vs Q E hr h => ?_)
  · obtain ⟨G, F, ws, P, sm, r, hc, _⟩ := h
    rw [r.length]; exact len ws P hc
  · obtain ⟨G, F, ws, P, sm, r, hc, kk⟩ := h
    refine ⟨_, hd cdv A outer s H E hr, ?_⟩
    have R := repS_start sm r (by rw [len ws P hc]; exact hN) N rfl
    refine ⟨_, F, _, _, R, hw ws P hc, ?_⟩
    have go : ∀ {F' H' : Hp} {σ' : L2.St} {δ' : List AV}, RepS T ⟨H, F, [], .non⟩ F' H' σ' δ' → Go F H F' H' := fun {F' H' σ' δ'} R' => ⟨fun a o e => R'.fr a o e (by simp), R'.f0, R'.ex, fun a h n => R'.fn a h (fun z => nomatch z) (Same.nt (fun b o e => R'.fr b o e (by simp)) h n)⟩
    exact ⟨fun δ' q F' H' σ' s R' => kk _ q .non F' H' (go R') .non, fun w δ' q v F' H' σ' s R' r' _ => kk w q v F' H' (go R') r', fun δ' q => q.elim, fun δ' q => q.elim⟩
end

/-! ### short forms -/
/-- a slot that is never changed by the def: what it gets is clean at once -/
def aSetC (i : Nat) (e : AE) : AS := fun E δ => e δ fun w => match clW w with
  | some d => E.nx (δ.set i (.im d))
  | none => False
section
variable {T : Tb} {X : Cx} {e a b : Expr} {x y : AE} {pos : Pos} {i : Nat} {G : Gx} {F H : Hp}
theorem rd_setC {D' : Ends} {σ : L2.St} {H : Hp} (h : rdS T (aSetC i x) D' σ H) : tAsg (rdE T x) (gName i) D' σ H := by
  obtain ⟨G, F, δ, E, R, h, k⟩ := h
  refine ⟨G, F, δ, _, R, h, fun w hw v F1 H1 g r => ?_⟩
  split at hw
  · rename_i d hd
    obtain ⟨F2, g2, r2⟩ := clW_rep g r hd
    exact k.nx _ hw F2 H1 _ g2.f ((R.go g2).put (a := .im d) ⟨v, rfl, r2⟩ fun _ _ e => nomatch e)
  · exact hw.elim
theorem s_setC {s : Str} {pos' : Pos} (hN : X.N.Nodup) (hi : X.N[i]? = some s) (hx : Loc X.env.scope s) (he : PE X e (rdE T x)) (hs : swapsWith e (some (.Name s pos')) pos.line X.env = pure false := by rfl) (hf : X.fn s = true ∨ X.env.scope.names.lookup s = some .local := by first | exact .inl rfl | exact .inr rfl | assumption) :
    PS X (.Assign [.Name s pos'] e pos) (rdS T (aSetC i x)) := (ps_set hN hi hx he hs hf).mono fun _ _ _ h => rd_setC h
theorem s_setCLc {ks : List Nat} {s : Str} {py : Pos} {elt tg iter : Expr} {ifs : List Expr} {scope : Scope} {own : List (Str × Nat)} {pos spos : Pos} {ai : AI} {ag : AG} {t : AT} {e : AE} (hc : X.calm = true) (hN : X.N.Nodup) (hy : X.N[i]? = some s) (hyl : X.env.scope.names.lookup s = some .local)
    (hsw : swapsWith (.ListComp elt [⟨tg, iter, ifs, 0⟩] scope pos) (some (.Name s py)) spos.line X.env = pure true) (hi : PI X tg iter (rdI T ai)) (ok : BlkOk X.N X.env.scope scope own) (hk : ∀ i ∈ ks, i ∈ own.map (·.2))
    (hg : ∀ (s : Shared) (H : Hp) (C : Addr) (cl : List (Str × Addr)) (fp : List Addr), PG (X.blk s H scope (compEnvC scope cl C X.env) fp) tg (rdG T ks ag)) (ht : ∀ (s : Shared) (H : Hp) (C : Addr) (cl : List (Str × Addr)) (fp : List Addr), PTs (X.blk s H scope (compEnvC scope cl C X.env) fp) ifs (rdT T t))
    (he : ∀ (s : Shared) (H : Hp) (C : Addr) (cl : List (Str × Addr)) (fp : List Addr), PE (X.blk s H scope (compEnvC scope cl C X.env) fp) elt (rdE T e)) (hs : ∀ x, foldedSetIterable iter X.env x = pure x := by intro _; rfl) :
    PS X (.Assign [.Name s py] (.ListComp elt [⟨tg, iter, ifs, 0⟩] scope pos) spos) (rdS T (aSetC i (aLc ai ag t e (own.map (·.2))))) := (ps_setLc hc hN hy hyl hsw hi ok hg ht he hs).mono fun D σ H h => by
  obtain ⟨G, F, δ, E, R, h, k⟩ := h
  refine rd_lc hk ⟨G, F, δ, _, R, h, fun w hw v F1 H1 g r => ?_⟩
  split at hw
  · rename_i d hd
    obtain ⟨F2, g2, r2⟩ := clW_rep g r hd
    exact k.nx _ hw F2 H1 _ g2.f ((R.go g2).put (a := .im d) ⟨v, rfl, r2⟩ fun _ _ e => nomatch e)
  · exact hw.elim
theorem e_ix (hTK : T.K = X.K) (ha : PE X a (rdE T x)) (hb : PE X b (rdE T y)) (hs : PlainIx b) : PE X (.Subscript a b pos) (rdE T (aBin dIx x y)) :=
  (pe_ix ix_seq ha hb hs).mono fun _ _ _ h => rd_bin (hTK ▸ b_ix) h
def dNeg : W → (W → Prop) → Prop := fun w Q => match w with
  | .cl (.int i) => Q (.cl (.int (-i)))
  | _ => False
theorem u_neg : Un1 T (rU fun i => .int (-i)) dNeg := by
  intro G F H F' H' x u P Q g r h k
  unfold dNeg at h
  split at h
  · exact ⟨_, rep_int r, k _ h _ _ _ g (.int _)⟩
  · exact h.elim
end
end Vl
namespace Vl
open PySem PySem.Spec PyProof.Rows L2

theorem _root_.L2.Room.u1 {k : Nat} {A : Around} (r : Room k A) : A.units + 1 < cLine := by have := r.un; omega
theorem _root_.L2.Room.u64 {k : Nat} {A : Around} (r : Room k A) : A.units + 64 < cLine := by have := r.un; omega
theorem _root_.L2.Room.u65 {k : Nat} {A : Around} (r : Room k A) : A.units + 65 < cLine := by have := r.un; omega

/-! ### lcm -/
def rLcm : List V → Hp → VK → Prop := fun vs H Q => ∃ a b : Int, vs = [.int a, .int b] ∧ (a.natAbs < 2 ^ 63 ∧ b.natAbs < 2 ^ 63) ∧ Q (.int ((Nat.lcm a.natAbs b.natAbs : Nat) : Int)) H
section
variable {X : Cx} {T : Tb}
theorem lcm_le (a b : Nat) : Nat.lcm a b ≤ a * b := by
  unfold Nat.lcm
  exact Nat.div_le_self _ _
theorem cr_lcm : CallR X (.builtin "math.lcm") rLcm := by
  intro pins s σ H vs us Q I r h
  obtain ⟨a, b, rfl, hs, q⟩ := h
  obtain ⟨t, u, rfl⟩ := Vals.int2 r
  have e : ((Nat.lcm 1 a.natAbs).lcm b.natAbs) = Nat.lcm a.natAbs b.natAbs := by rw [Nat.lcm_one_left]
  refine PySem.W.mg_lcm (by omega) (by omega) ?_ ?_
  · rw [e]
    have h1 := lcm_le a.natAbs b.natAbs
    have h2 : a.natAbs * b.natAbs < 2 ^ 126 := by
      have : (2:Nat) ^ 126 = 2 ^ 63 * 2 ^ 63 := by decide
      rw [this]
      exact Nat.mul_lt_mul'' hs.1 hs.2
    have h3 : (((Nat.lcm a.natAbs b.natAbs : Nat) : Int)).natAbs = Nat.lcm a.natAbs b.natAbs := rfl
    rw [h3]
    by_cases hz : Nat.lcm a.natAbs b.natAbs = 0
    · rw [hz]; decide
    · have : (Nat.lcm a.natAbs b.natAbs).log2 < 126 := (Nat.log2_lt hz).mpr (by omega)
      exact Nat.lt_trans this (by decide)
  · rw [e]
    exact ⟨.int _, H, I.tok _, ⟨_, rfl⟩, q⟩
end
def fLcm : List W → (W → Prop) → Prop := two fun w u Q => match w, u with
  | .cl (.int i), .cl (.int j) => (i.natAbs < 2 ^ 63 ∧ j.natAbs < 2 ^ 63) ∧ Q (.cl (.int ((Nat.lcm i.natAbs j.natAbs : Nat) : Int)))
  | _, _ => False
theorem c_lcm {T : Tb} : CallV T rLcm fLcm := by
  intro G F H F' H' xs ws P Q g r h k
  obtain ⟨x, y, w, u, rfl, rfl, rx, ry, h⟩ := two_inv h r
  split at h
  · exact ⟨_, _, by rw [rep_int rx, rep_int ry], h.1, k _ h.2 _ _ _ g (.int _)⟩
  · exact h.elim

/-! ### x += e -/
def aAugAdd (i : Nat) (e : AE) : AS := fun E δ => match gt δ i with
  | .im (.int a) => e δ fun w => match w with
    | .cl (.int b) => E.nx (δ.set i (.im (.int (a + b))))
    | _ => False
  | _ => False
def aAugSub (i : Nat) (e : AE) : AS := fun E δ => match gt δ i with
  | .im (.int a) => e δ fun w => match w with
    | .cl (.int b) => E.nx (δ.set i (.im (.int (a - b))))
    | _ => False
  | _ => False
section
variable {T : Tb} {X : Cx} {e : Expr} {x : AE} {pos pos' : Pos} {i : Nat} {y : Str}
theorem s_augAdd (hN : X.N.Nodup) (hi : X.N[i]? = some y) (hx : Loc X.env.scope y) (he : PE X e (rdE T x)) (hf : X.fn y = true ∨ X.env.scope.names.lookup y = some .local := by first | exact .inl rfl | exact .inr rfl | assumption) :
    PS X (.AugAssign (.Name y pos') .Add e pos) (rdS T (aAugAdd i x)) := (ps_aug hN hi hx he ip_add hf).mono fun D σ H h => by
  obtain ⟨G, F, δ, E, R, h, k⟩ := h
  unfold aAugAdd at h
  split at h
  · rename_i a hg
    have q := R.sl i
    rw [hg] at q
    obtain ⟨v, e, r⟩ := q
    cases rep_int r
    refine ⟨_, gs_some e, G, F, δ, _, R, h, fun w hw v F1 H1 g r => ?_⟩
    split at hw
    · rename_i b
      exact ⟨a, b, rfl, rep_int r, k.nx _ hw F1 H1 _ g.f ((R.go g).put (a := .im _) ⟨_, rfl, .int _⟩ fun _ _ e => nomatch e)⟩
    · exact hw.elim
  · exact h.elim
theorem s_augSub (hN : X.N.Nodup) (hi : X.N[i]? = some y) (hx : Loc X.env.scope y) (he : PE X e (rdE T x)) (hf : X.fn y = true ∨ X.env.scope.names.lookup y = some .local := by first | exact .inl rfl | exact .inr rfl | assumption) :
    PS X (.AugAssign (.Name y pos') .Sub e pos) (rdS T (aAugSub i x)) := (ps_aug hN hi hx he ip_sub hf).mono fun D σ H h => by
  obtain ⟨G, F, δ, E, R, h, k⟩ := h
  unfold aAugSub at h
  split at h
  · rename_i a hg
    have q := R.sl i
    rw [hg] at q
    obtain ⟨v, e, r⟩ := q
    cases rep_int r
    refine ⟨_, gs_some e, G, F, δ, _, R, h, fun w hw v F1 H1 g r => ?_⟩
    split at hw
    · rename_i b
      exact ⟨a, b, rfl, rep_int r, k.nx _ hw F1 H1 _ g.f ((R.go g).put (a := .im _) ⟨_, rfl, .int _⟩ fun _ _ e => nomatch e)⟩
    · exact hw.elim
  · exact h.elim
theorem e_gint {s : Str} {n : Int} {u : Tok} (hg : Gl X s) (hm : X.mg s = some (.int n u)) (hd : (s == ("__debug__" : Str)) = false := by decide) : PE X (.Name s pos) (rdE T (aC (.int n))) :=
  (pe_glob (v := .int n) hg hm ⟨_, rfl⟩ hd).mono fun _ _ _ h => rd_c (fun _ => .int n) h
theorem e_gintE {s : Str} {n : Int} (hg : Gl X s) (hm : ∃ u, X.mg s = some (.int n u)) (hd : (s == ("__debug__" : Str)) = false := by decide) : PE X (.Name s pos) (rdE T (aC (.int n))) := by
  obtain ⟨u, hm⟩ := hm
  exact e_gint hg hm hd
end

/-! ### contracts by the number of arguments -/
def args1 (f : W → (W → Prop) → Prop) : Ct := fun ws Q => match ws with
  | [a] => f a Q
  | _ => False
def args2 (f : W → W → (W → Prop) → Prop) : Ct := fun ws Q => match ws with
  | [a, b] => f a b Q
  | _ => False
def args3 (f : W → W → W → (W → Prop) → Prop) : Ct := fun ws Q => match ws with
  | [a, b, c] => f a b c Q
  | _ => False
def args4 (f : W → W → W → W → (W → Prop) → Prop) : Ct := fun ws Q => match ws with
  | [a, b, c, d] => f a b c d Q
  | _ => False
theorem args1_inv {f : W → (W → Prop) → Prop} {ws : List W} {Q : W → Prop} (h : args1 f ws Q) : ∃ a, ws = [a] ∧ f a Q := by
  unfold args1 at h
  split at h
  · exact ⟨_, rfl, h⟩
  · exact h.elim
theorem args2_inv {f : W → W → (W → Prop) → Prop} {ws : List W} {Q : W → Prop} (h : args2 f ws Q) : ∃ a b, ws = [a, b] ∧ f a b Q := by
  unfold args2 at h
  split at h
  · exact ⟨_, _, rfl, h⟩
  · exact h.elim
theorem args3_inv {f : W → W → W → (W → Prop) → Prop} {ws : List W} {Q : W → Prop} (h : args3 f ws Q) : ∃ a b c, ws = [a, b, c] ∧ f a b c Q := by
  unfold args3 at h
  split at h
  · exact ⟨_, _, _, rfl, h⟩
  · exact h.elim
theorem args4_inv {f : W → W → W → W → (W → Prop) → Prop} {ws : List W} {Q : W → Prop} (h : args4 f ws Q) : ∃ a b c d, ws = [a, b, c, d] ∧ f a b c d Q := by
  unfold args4 at h
  split at h
  · exact ⟨_, _, _, _, rfl, h⟩
  · exact h.elim
end Vl
/-! Reading bodies over data: computing rules, loops, comprehensions, equality. -/
namespace Vl
open PySem PySem.Spec PyProof.Rows L2

theorem gt_z (a : AV) (l : List AV) : gt (a :: l) 0 = a := rfl
theorem gt_s (a : AV) (l : List AV) (n : Nat) : gt (a :: l) (n + 1) = gt l n := rfl

/-! ### loops -/
def Loop (g : AG) (body : AS) (E : AEnds) (δ : List AV) (ds : List D) : Prop := ∃ I : Nat → List AV → Prop, I 0 δ ∧
  (∀ i d δ', ds[i]? = some d → I i δ' → g d δ' fun δ2 => body { E with nx := I (i + 1), ct := I (i + 1), bk := E.nx } δ2) ∧ ∀ δ', I ds.length δ' → E.nx δ'
theorem aFor_eq (ai : AI) (g : AG) (body : AS) (E : AEnds) (δ : List AV) : aFor ai g body E δ = ai δ fun ds => Loop g body E δ ds := rfl
section
variable {α : Type} {g : AG} {body : AS} {E : AEnds} {δ : List AV}
/-- over data that stands for xs: P by what is left -/
theorem for_map (enc : α → D) (xs : List α) (P : List α → List AV → Prop) (h0 : P xs δ) (hs : ∀ x r δ', (∃ l, xs = l ++ x :: r) → P (x :: r) δ' → g (enc x) δ' fun δ2 => body { E with nx := P r, ct := P r, bk := E.nx } δ2) (he : ∀ δ', P [] δ' → E.nx δ') :
    Loop g body E δ (xs.map enc) := by
  refine ⟨fun i δ' => P (xs.drop i) δ', h0, fun i d δ' hd hp => ?_, fun δ' hp => ?_⟩
  · rw [List.getElem?_map] at hd
    cases e : xs[i]? with
    | none => rw [e] at hd; cases hd
    | some x =>
      rw [e] at hd
      cases hd
      obtain ⟨hl, he⟩ := List.getElem?_eq_some_iff.mp e
      have e2 : xs.drop i = x :: xs.drop (i + 1) := by rw [List.drop_eq_getElem_cons hl, he]
      have hp : P (xs.drop i) δ' := hp
      rw [e2] at hp
      exact hs x (xs.drop (i + 1)) δ' ⟨xs.take i, by rw [← e2, List.take_append_drop]⟩ hp
  · have hp : P (xs.drop (xs.map enc).length) δ' := hp
    rw [List.length_map, List.drop_length] at hp
    exact he δ' hp
/-- over data as it is -/
theorem for_lst (ds : List D) (P : List D → List AV → Prop) (h0 : P ds δ) (hs : ∀ x r δ', (∃ l, ds = l ++ x :: r) → P (x :: r) δ' → g x δ' fun δ2 => body { E with nx := P r, ct := P r, bk := E.nx } δ2) (he : ∀ δ', P [] δ' → E.nx δ') :
    Loop g body E δ ds := by
  have h := for_map (g := g) (body := body) (E := E) (δ := δ) id ds P h0 (fun x r δ' e hp => hs x r δ' e hp) he
  rw [List.map_id] at h
  exact h
theorem ups_get {lo : Int} {n i : Nat} {d : D} (h : (ups lo n)[i]? = some d) : i < n ∧ d = .int (lo + (i : Nat)) := by
  unfold ups at h
  rw [List.getElem?_map] at h
  by_cases hi : i < n
  · rw [List.getElem?_range hi] at h
    cases h
    exact ⟨hi, rfl⟩
  · rw [List.getElem?_eq_none_iff.mpr (by simpa using hi)] at h
    cases h
theorem ups_len {lo : Int} {n : Nat} : (ups lo n).length = n := by unfold ups; simp
/-- over lo, lo + 1, .. -/
theorem for_up {lo : Int} {n : Nat} (P : Nat → List AV → Prop) (h0 : P 0 δ) (hs : ∀ i δ', i < n → P i δ' → g (.int (lo + (i : Nat))) δ' fun δ2 => body { E with nx := P (i + 1), ct := P (i + 1), bk := E.nx } δ2) (he : ∀ δ', P n δ' → E.nx δ') :
    Loop g body E δ (ups lo n) :=
  ⟨P, h0, fun i d δ' hd hp => by obtain ⟨hi, rfl⟩ := ups_get hd; exact hs i δ' hi hp, fun δ' hp => by rw [ups_len] at hp; exact he δ' hp⟩
theorem while_by (P : Nat → List AV → Prop) (m : Nat) (h0 : P m δ) {t : AT} (hs : ∀ m δ', P m δ' → t δ' fun b => if b = true then body { E with nx := fun δ2 => ∃ m', m' < m ∧ P m' δ2, ct := fun δ2 => ∃ m', m' < m ∧ P m' δ2, bk := E.nx } δ' else E.nx δ') : aWhile t body E δ :=
  ⟨P, ⟨m, h0⟩, hs⟩
/-- an if that both ways walk on: the rest twice -/
theorem cut_self {s t : AS} (h : s { E with nx := t E } δ) : aCut s t E δ := ⟨_, h, fun _ q => q⟩
theorem cut_by {s t : AS} (M : List AV → Prop) (h : s { E with nx := M } δ) (k : ∀ δ', M δ' → t E δ') : aCut s t E δ := ⟨M, h, k⟩
end

/-! ### comprehensions -/
section
variable {α : Type} {g : AG} {t : AT} {e : AE} {δ : List AV} {Q : W → Prop}
/-- over data that stands for xs, every item kept or not by p, its data by f -/
theorem lc_map (enc : α → D) (p : α → Bool) (f : α → D) : ∀ (xs : List α) (acc : List D), acc.length + xs.length ≤ 1000000 →
    (∀ x ∈ xs, ∀ K : W → Prop, ∀ L : Prop, (p x = true → K (.cl (f x))) → (p x = false → L) → g (enc x) δ fun δ2 => t δ2 fun b => if b = true then e δ2 (fun w => K (argW w)) else L) →
    Q (.fr (.fl (acc ++ (xs.filter p).map f))) → lcGo g t e δ (xs.map enc) acc Q
  | [], acc, _, _, q => by simpa [lcGo] using q
  | x :: xs, acc, hl, h, q => by
    have hl' : acc.length + (xs.length + 1) ≤ 1000000 := by simpa using hl
    show lcGo g t e δ (enc x :: xs.map enc) acc Q
    unfold lcGo
    have hx := h x (List.mem_cons_self) (fun w => match w with
      | .cl y => acc.length < 1000000 ∧ lcGo g t e δ (xs.map enc) (acc ++ [y]) Q
      | _ => False) (lcGo g t e δ (xs.map enc) acc Q) (fun hp => ⟨by omega, ?_⟩) (fun hp => ?_)
    · exact hx
    · refine lc_map enc p f xs (acc ++ [f x]) (by rw [List.length_append, List.length_singleton]; omega) (fun y hy => h y (List.mem_cons_of_mem _ hy)) ?_
      rw [List.filter_cons, if_pos hp] at q
      simpa using q
    · refine lc_map enc p f xs acc (by omega) (fun y hy => h y (List.mem_cons_of_mem _ hy)) ?_
      rw [List.filter_cons, if_neg (by rw [hp]; decide)] at q
      exact q
/-- without a test -/
theorem lc_all (enc : α → D) (f : α → D) (xs : List α) (hl : xs.length ≤ 1000000)
    (h : ∀ x ∈ xs, ∀ K : W → Prop, K (.cl (f x)) → g (enc x) δ fun δ2 => e δ2 (fun w => K (argW w))) (q : Q (.fr (.fl (xs.map f)))) : lcGo g aYes e δ (xs.map enc) [] Q :=
  lc_map enc (fun _ => true) f xs [] (by simpa using hl) (fun x hx K L k _ => by
    have := h x hx K (k rfl)
    simpa [aYes] using this) (by
    have e : xs.filter (fun _ => true) = xs := List.filter_eq_self.mpr fun _ _ => rfl
    rw [e]
    exact q)
end

/-! ### equality -/
theorem pds_map (ds : List D) : pds ds = ds.map pd := by
  induction ds with
  | nil => rfl
  | cons d ds ih => rw [pds, ih]; rfl
theorem okD_int (i : Int) : okD (.int i) = true := rfl
theorem okD_bl (i : Bool) : okD (.bl i) = true := rfl
theorem okD_non : okD .non = true := rfl
theorem okD_str (i : Str) (h : PyData.strOk i = true) : okD (.str i) = true := by
  unfold okD SeqAt.shaped
  simp [pd, PyData.canLay0, PyData.depth, h]
theorem eqD_int (i j : Int) : eqD (.int i) (.int j) = decide (i = j) := by
  show (i == j) = decide (i = j)
  by_cases h : i = j <;> simp [h]
theorem eqD_bl (i j : Bool) : eqD (.bl i) (.bl j) = (i == j) := rfl
theorem eqD_str (i j : Str) : eqD (.str i) (.str j) = decide (i = j) := by
  show (i == j) = decide (i = j)
  by_cases h : i = j <;> simp [h]
theorem eqD_non : eqD .non .non = true := rfl
theorem eqD_non_int (i : Int) : eqD .non (.int i) = false := rfl
theorem eqD_int_non (i : Int) : eqD (.int i) .non = false := rfl
theorem eqD_non_tup (i : List D) : eqD .non (.tup i) = false := rfl
theorem eqD_tup_non (i : List D) : eqD (.tup i) .non = false := rfl
theorem eqD_non_lst (i : List D) : eqD .non (.lst i) = false := rfl
theorem eqD_lst_non (i : List D) : eqD (.lst i) .non = false := rfl
/-- depth at most n, no dict, no instance -/
def dep (n : Nat) (d : D) : Prop := (pd d).canLay0 = true ∧ (pd d).depth ≤ n
theorem dep_ok {n : Nat} {d : D} (h : dep n d) (hn : n ≤ 64) : okD d = true := by
  unfold okD SeqAt.shaped
  rw [h.1, Bool.true_and]
  exact decide_eq_true (Nat.le_trans h.2 hn)
theorem dep_mono {m n : Nat} {d : D} (h : dep m d) (hn : m ≤ n) : dep n d := ⟨h.1, Nat.le_trans h.2 hn⟩
theorem dep_int (n : Nat) (i : Int) : dep n (.int i) := ⟨rfl, Nat.zero_le _⟩
theorem dep_bl (n : Nat) (i : Bool) : dep n (.bl i) := ⟨rfl, Nat.zero_le _⟩
theorem dep_str (n : Nat) (i : Str) (h : PyData.strOk i = true) : dep n (.str i) := ⟨by simp [pd, PyData.canLay0, h], Nat.zero_le _⟩
theorem dep_non (n : Nat) : dep n .non := ⟨rfl, Nat.zero_le _⟩
theorem dep_all {n : Nat} : ∀ {ds : List D}, (∀ d ∈ ds, dep n d) → PyData.canLayAll0 (pds ds) = true ∧ PyData.depthAll (pds ds) ≤ n
  | [], _ => ⟨rfl, Nat.zero_le _⟩
  | d :: ds, h => by
    have h1 := h d List.mem_cons_self
    have h2 := dep_all (ds := ds) fun x hx => h x (List.mem_cons_of_mem _ hx)
    refine ⟨?_, ?_⟩
    · show ((pd d).canLay0 && PyData.canLayAll0 (pds ds)) = true
      rw [h1.1, h2.1]; rfl
    · show max (pd d).depth (PyData.depthAll (pds ds)) ≤ n
      exact Nat.max_le.mpr ⟨h1.2, h2.2⟩
theorem dep_lst {n : Nat} {ds : List D} (h : ∀ d ∈ ds, dep n d) : dep (n + 1) (.lst ds) := by
  have h2 := dep_all h
  refine ⟨?_, ?_⟩
  · simpa [pd, PyData.canLay0] using h2.1
  · show (PyData.list (pds ds)).depth ≤ n + 1
    have := h2.2
    simp only [PyData.depth]
    omega
theorem dep_tup {n : Nat} {ds : List D} (h : ∀ d ∈ ds, dep n d) : dep (n + 1) (.tup ds) := by
  have h2 := dep_all h
  refine ⟨?_, ?_⟩
  · simpa [pd, PyData.canLay0] using h2.1
  · show (PyData.tuple (pds ds)).depth ≤ n + 1
    have := h2.2
    simp only [PyData.depth]
    omega
/-- == of two lists, of two tuples, item by item -/
theorem eqv_all {α β : Type} {f : α → D} {g : β → D} : ∀ {xs : List α} {ys : List β}, PyData.eqvAll (pds (xs.map f)) (pds (ys.map g)) = true ↔ xs.length = ys.length ∧ ∀ (i : Nat) (x : α) (y : β), xs[i]? = some x → ys[i]? = some y → eqD (f x) (g y) = true
  | [], [] => by simp [pds, PyData.eqvAll]
  | [], y :: ys => by simp [pds, PyData.eqvAll]
  | x :: xs, [] => by simp [pds, PyData.eqvAll]
  | x :: xs, y :: ys => by
    have ih := eqv_all (f := f) (g := g) (xs := xs) (ys := ys)
    show (eqD (f x) (g y) && PyData.eqvAll (pds (xs.map f)) (pds (ys.map g))) = true ↔ _
    rw [Bool.and_eq_true, ih]
    constructor
    · rintro ⟨h1, h2, h3⟩
      refine ⟨by simp [h2], fun i a b ha hb => ?_⟩
      cases i with
      | zero => simp at ha hb; subst ha hb; exact h1
      | succ i => exact h3 i a b (by simpa using ha) (by simpa using hb)
    · rintro ⟨h1, h2⟩
      exact ⟨h2 0 x y rfl rfl, by simpa using h1, fun i a b ha hb => h2 (i + 1) a b (by simpa using ha) (by simpa using hb)⟩
theorem eqD_lst {α : Type} [DecidableEq α] {f : α → D} (hf : ∀ x y, eqD (f x) (f y) = decide (x = y)) (xs ys : List α) : eqD (.lst (xs.map f)) (.lst (ys.map f)) = decide (xs = ys) := by
  have h := eqv_all (f := f) (g := f) (xs := xs) (ys := ys)
  show PyData.eqvAll (pds (xs.map f)) (pds (ys.map f)) = _
  rw [Bool.eq_iff_iff, h, decide_eq_true_eq]
  constructor
  · rintro ⟨h1, h2⟩
    apply List.ext_getElem?
    intro i
    cases e : xs[i]? with
    | none =>
      have := List.getElem?_eq_none_iff.mp e
      rw [List.getElem?_eq_none_iff.mpr (by omega)]
    | some x =>
      have hi := (List.getElem?_eq_some_iff.mp e).1
      have e2 : ys[i]? = some ys[i] := List.getElem?_eq_getElem (by omega)
      have := h2 i x _ e e2
      rw [hf, decide_eq_true_eq] at this
      rw [e2, this]
  · rintro rfl
    refine ⟨rfl, fun i x y hx hy => ?_⟩
    rw [hx] at hy
    cases hy
    rw [hf]; simp
theorem eqD_ints (xs ys : List Int) : eqD (.lst (xs.map .int)) (.lst (ys.map .int)) = decide (xs = ys) := eqD_lst eqD_int xs ys
theorem eqD_lst_refl (d : D) : PyData.canLay0 (pd d) = true → eqD d d = true := fun h => SeqAt.eqv_refl _ h

/-! ### computing rules -/
theorem dSub_eq (x y : W) (Q : W → Prop) : dSub x y Q = dI0 (fun i j => .int (i - j)) x y Q := rfl
theorem dDiv_eq (x y : W) (Q : W → Prop) : dDiv x y Q = dI (fun _ j => 0 < j ∧ j < 1073741824) (fun i j => .int (i / j)) x y Q := rfl
theorem dMod_eq (x y : W) (Q : W → Prop) : dMod x y Q = dI (fun _ j => 0 < j) (fun i j => .int (i % j)) x y Q := rfl
theorem dShl_eq (x y : W) (Q : W → Prop) : dShl x y Q = dI (fun i j => 0 ≤ j ∧ j ≤ 1000000 ∧ i.natAbs < 2 ^ 64) (fun i j => .int (i * 2 ^ j.toNat)) x y Q := rfl
theorem dPow_eq (x y : W) (Q : W → Prop) : dPow x y Q = dI (fun i j => 0 ≤ j ∧ j ≤ 1000000 ∧ i.natAbs < 2 ^ 64) (fun i j => .int (i ^ j.toNat)) x y Q := rfl
theorem dLt_eq (x y : W) (Q : W → Prop) : dLt x y Q = dI0 (fun i j => .bl (decide (i < j))) x y Q := rfl
theorem dLe_eq (x y : W) (Q : W → Prop) : dLe x y Q = dI0 (fun i j => .bl (decide (i ≤ j))) x y Q := rfl
theorem dGt_eq (x y : W) (Q : W → Prop) : dGt x y Q = dI0 (fun i j => .bl (decide (j < i))) x y Q := rfl
theorem dGe_eq (x y : W) (Q : W → Prop) : dGe x y Q = dI0 (fun i j => .bl (decide (j ≤ i))) x y Q := rfl
theorem fLen_lst (ds : List D) (Q : W → Prop) : fLen1 [.cl (.lst ds)] Q = Q (.cl (.int ds.length)) := rfl
theorem fLen_tup (ds : List D) (Q : W → Prop) : fLen1 [.cl (.tup ds)] Q = Q (.cl (.int ds.length)) := rfl
theorem fLen_ow (ds : List D) (Q : W → Prop) : fLen1 [.ow (.fl ds)] Q = Q (.cl (.int ds.length)) := rfl
theorem fLen_bw (ds : List D) (Q : W → Prop) : fLen1 [.bw (.fl ds)] Q = Q (.cl (.int ds.length)) := rfl
theorem fLen_scr (ds : List Int) (Q : W → Prop) : fLen1 [.cl (.scr ds)] Q = Q (.cl (.int ds.length)) := by
  show Q (.cl (.int ((ds.map D.int).length : Nat))) = _
  rw [List.length_map]
theorem fLen_str (z : Str) (Q : W → Prop) : fLen1 [.cl (.str z)] Q = (z.length ≤ 1000000 ∧ Q (.cl (.int z.length))) := rfl
theorem fInt_int (i : Int) (Q : W → Prop) : fInt [.cl (.int i)] Q = Q (.cl (.int i)) := rfl
theorem fInt_bl (b : Bool) (Q : W → Prop) : fInt [.cl (.bl b)] Q = Q (.cl (.int (if b then 1 else 0))) := rfl
theorem fAbs_int (i : Int) (Q : W → Prop) : fAbs [.cl (.int i)] Q = Q (.cl (.int (if i < 0 then -i else i))) := rfl
theorem fMax_int (i j : Int) (Q : W → Prop) : fMax2 [.cl (.int i), .cl (.int j)] Q = Q (.cl (.int (if j > i then j else i))) := rfl
theorem fMin_int (i j : Int) (Q : W → Prop) : fMin2 [.cl (.int i), .cl (.int j)] Q = Q (.cl (.int (if j < i then j else i))) := rfl
theorem fGcd_int (i j : Int) (Q : W → Prop) : fGcd [.cl (.int i), .cl (.int j)] Q = Q (.cl (.int ((Nat.gcd i.natAbs j.natAbs : Nat) : Int))) := rfl
theorem fLcm_int (i j : Int) (Q : W → Prop) : fLcm [.cl (.int i), .cl (.int j)] Q = ((i.natAbs < 2 ^ 63 ∧ j.natAbs < 2 ^ 63) ∧ Q (.cl (.int ((Nat.lcm i.natAbs j.natAbs : Nat) : Int)))) := rfl
theorem fList_lst (ds : List D) (Q : W → Prop) : fList [.cl (.lst ds)] Q = Q (.fr (.fl ds)) := rfl
theorem fList_tup (ds : List D) (Q : W → Prop) : fList [.cl (.tup ds)] Q = Q (.fr (.fl ds)) := rfl
theorem fList_ow (ds : List D) (Q : W → Prop) : fList [.ow (.fl ds)] Q = Q (.fr (.fl ds)) := rfl
theorem fList_bw (ds : List D) (Q : W → Prop) : fList [.bw (.fl ds)] Q = Q (.fr (.fl ds)) := rfl
theorem fList_scr (ds : List Int) (Q : W → Prop) : fList [.cl (.scr ds)] Q = Q (.fr (.fl (ds.map .int))) := rfl
theorem snoc_map {α : Type} (f : α → D) (xs : List α) (x : α) : xs.map f ++ [f x] = (xs ++ [x]).map f := by rw [List.map_append]; rfl
theorem snoc_int (xs : List Int) (x : Int) : xs.map D.int ++ [D.int x] = (xs ++ [x]).map D.int := snoc_map D.int xs x
theorem ixD_0 {α : Type} (a : α) (r : List α) : ixD (a :: r) 0 = some a := rfl
theorem ixD_1 {α : Type} (a b : α) (r : List α) : ixD (a :: b :: r) 1 = some b := rfl
theorem ixD_2 {α : Type} (a b c : α) (r : List α) : ixD (a :: b :: c :: r) 2 = some c := rfl
theorem ixD_3 {α : Type} (a b c d : α) (r : List α) : ixD (a :: b :: c :: d :: r) 3 = some d := rfl
theorem ixD_4 {α : Type} (a b c d e : α) (r : List α) : ixD (a :: b :: c :: d :: e :: r) 4 = some e := rfl
theorem ixD_5 {α : Type} (a b c d e f : α) (r : List α) : ixD (a :: b :: c :: d :: e :: f :: r) 5 = some f := rfl
theorem ixD_6 {α : Type} (a b c d e f g : α) (r : List α) : ixD (a :: b :: c :: d :: e :: f :: g :: r) 6 = some g := rfl
theorem ixD_7 {α : Type} (a b c d e f g h : α) (r : List α) : ixD (a :: b :: c :: d :: e :: f :: g :: h :: r) 7 = some h := rfl
theorem ixD_8 {α : Type} (a b c d e f g h i : α) (r : List α) : ixD (a :: b :: c :: d :: e :: f :: g :: h :: i :: r) 8 = some i := rfl
theorem ixD_9 {α : Type} (a b c d e f g h i j : α) (r : List α) : ixD (a :: b :: c :: d :: e :: f :: g :: h :: i :: j :: r) 9 = some j := rfl
theorem ixD_10 {α : Type} (a b c d e f g h i j k : α) (r : List α) : ixD (a :: b :: c :: d :: e :: f :: g :: h :: i :: j :: k :: r) 10 = some k := rfl
theorem ixD_11 {α : Type} (a b c d e f g h i j k l : α) (r : List α) : ixD (a :: b :: c :: d :: e :: f :: g :: h :: i :: j :: k :: l :: r) 11 = some l := rfl
theorem len_1 {α : Type} {xs : List α} (h : xs.length = 1) : ∃ a, xs = [a] := match xs, h with
  | [a], _ => ⟨a, rfl⟩
theorem len_2 {α : Type} {xs : List α} (h : xs.length = 2) : ∃ a b, xs = [a, b] := match xs, h with
  | [a, b], _ => ⟨a, b, rfl⟩
theorem len_3 {α : Type} {xs : List α} (h : xs.length = 3) : ∃ a b c, xs = [a, b, c] := match xs, h with
  | [a, b, c], _ => ⟨a, b, c, rfl⟩
theorem len_4 {α : Type} {xs : List α} (h : xs.length = 4) : ∃ a b c d, xs = [a, b, c, d] := match xs, h with
  | [a, b, c, d], _ => ⟨a, b, c, d, rfl⟩
theorem len_5 {α : Type} {xs : List α} (h : xs.length = 5) : ∃ a b c d e, xs = [a, b, c, d, e] := match xs, h with
  | [a, b, c, d, e], _ => ⟨a, b, c, d, e, rfl⟩
theorem len_6 {α : Type} {xs : List α} (h : xs.length = 6) : ∃ a b c d e f, xs = [a, b, c, d, e, f] := match xs, h with
  | [a, b, c, d, e, f], _ => ⟨a, b, c, d, e, f, rfl⟩
theorem len_7 {α : Type} {xs : List α} (h : xs.length = 7) : ∃ a b c d e f g, xs = [a, b, c, d, e, f, g] := match xs, h with
  | [a, b, c, d, e, f, g], _ => ⟨a, b, c, d, e, f, g, rfl⟩
theorem len_8 {α : Type} {xs : List α} (h : xs.length = 8) : ∃ a b c d e f g h, xs = [a, b, c, d, e, f, g, h] := match xs, h with
  | [a, b, c, d, e, f, g, h], _ => ⟨a, b, c, d, e, f, g, h, rfl⟩
theorem len_9 {α : Type} {xs : List α} (h : xs.length = 9) : ∃ a b c d e f g h i, xs = [a, b, c, d, e, f, g, h, i] := match xs, h with
  | [a, b, c, d, e, f, g, h, i], _ => ⟨a, b, c, d, e, f, g, h, i, rfl⟩
theorem len_10 {α : Type} {xs : List α} (h : xs.length = 10) : ∃ a b c d e f g h i j, xs = [a, b, c, d, e, f, g, h, i, j] := match xs, h with
  | [a, b, c, d, e, f, g, h, i, j], _ => ⟨a, b, c, d, e, f, g, h, i, j, rfl⟩
theorem len_11 {α : Type} {xs : List α} (h : xs.length = 11) : ∃ a b c d e f g h i j k, xs = [a, b, c, d, e, f, g, h, i, j, k] := match xs, h with
  | [a, b, c, d, e, f, g, h, i, j, k], _ => ⟨a, b, c, d, e, f, g, h, i, j, k, rfl⟩
theorem len_12 {α : Type} {xs : List α} (h : xs.length = 12) : ∃ a b c d e f g h i j k l, xs = [a, b, c, d, e, f, g, h, i, j, k, l] := match xs, h with
  | [a, b, c, d, e, f, g, h, i, j, k, l], _ => ⟨a, b, c, d, e, f, g, h, i, j, k, l, rfl⟩
theorem cutD_map {α : Type} (f : α → D) (xs : List α) (lo hi : Option Int) : cutD (xs.map f) lo hi = ((xs.drop (HT.sIx xs.length 0 lo)).take (HT.sIx xs.length xs.length hi - HT.sIx xs.length 0 lo)).map f := by
  unfold cutD
  rw [List.length_map, List.map_take, List.map_drop]
def cutL {α : Type} (xs : List α) (lo hi : Option Int) : List α := (xs.drop (HT.sIx xs.length 0 lo)).take (HT.sIx xs.length xs.length hi - HT.sIx xs.length 0 lo)
theorem cutD_cutL {α : Type} (f : α → D) (xs : List α) (lo hi : Option Int) : cutD (xs.map f) lo hi = (cutL xs lo hi).map f := cutD_map f xs lo hi
theorem cutL_len {α : Type} (xs : List α) (lo hi : Option Int) : (cutL xs lo hi).length ≤ xs.length := by
  unfold cutL
  rw [List.length_take, List.length_drop]
  omega
theorem cutL_mem {α : Type} {xs : List α} {lo hi : Option Int} {x : α} (h : x ∈ cutL xs lo hi) : x ∈ xs := List.mem_of_mem_drop (List.mem_of_mem_take h)
/-- the answers of the items are not told, but that each is one of S -/
theorem lc_any {α β : Type} {g : AG} {e : AE} {δ : List AV} {Q : W → Prop} (enc : α → D) (dec : β → D) (S : β → Prop) : ∀ (xs : List α) (acc : List β), acc.length + xs.length ≤ 1000000 → (∀ b ∈ acc, S b) →
    (∀ x ∈ xs, ∀ K : W → Prop, (∀ b, S b → K (.cl (dec b))) → g (enc x) δ fun δ2 => e δ2 fun w => K (argW w)) →
    (∀ bs : List β, bs.length = acc.length + xs.length → (∀ b ∈ bs, S b) → Q (.fr (.fl (bs.map dec)))) → lcGo g aYes e δ (xs.map enc) (acc.map dec) Q
  | [], acc, _, hS, _, q => by
    show Q (.fr (.fl (acc.map dec)))
    exact q acc (by simp) hS
  | x :: xs, acc, hl, hS, h, q => by
    have hl' : acc.length + (xs.length + 1) ≤ 1000000 := by simpa using hl
    show lcGo g aYes e δ (enc x :: xs.map enc) (acc.map dec) Q
    unfold lcGo
    refine h x List.mem_cons_self (fun w => match w with
      | .cl y => (acc.map dec).length < 1000000 ∧ lcGo g aYes e δ (xs.map enc) (acc.map dec ++ [y]) Q
      | _ => False) fun b hb => ⟨by rw [List.length_map]; omega, ?_⟩
    rw [snoc_map]
    refine lc_any enc dec S xs (acc ++ [b]) (by rw [List.length_append, List.length_singleton]; omega) (fun c hc => ?_) (fun y hy => h y (List.mem_cons_of_mem _ hy)) fun bs hl hs => q bs (by rw [hl]; simp; omega) hs
    rcases List.mem_append.mp hc with hc | hc
    · exact hS c hc
    · rw [List.mem_singleton.mp hc]; exact hb
theorem isi_bl_bool (b : Bool) : isiF (.bl b) "bool" = some true := rfl
theorem isi_bl_int (b : Bool) : isiF (.bl b) "int" = some true := rfl
theorem isi_int_int (b : Int) : isiF (.int b) "int" = some true := rfl
theorem isi_int_bool (b : Int) : isiF (.int b) "bool" = some false := rfl
theorem isi_non_int  : isiF (.non) "int" = some false := rfl
theorem isi_non_bool  : isiF (.non) "bool" = some false := rfl
theorem isi_lst_list (b : List D) : isiF (.lst b) "list" = some true := rfl
theorem isi_tup_list (b : List D) : isiF (.tup b) "list" = some false := rfl
theorem isi_tup_tuple (b : List D) : isiF (.tup b) "tuple" = some true := rfl
theorem isi_non_tuple  : isiF (.non) "tuple" = some false := rfl
theorem isi_non_list  : isiF (.non) "list" = some false := rfl
theorem isi_str_str (b : Str) : isiF (.str b) "str" = some true := rfl
theorem isi_lst_bool (b : List D) : isiF (.lst b) "bool" = some false := rfl
theorem isi_str_bool (b : Str) : isiF (.str b) "bool" = some false := rfl
theorem isi_tup_bool (b : List D) : isiF (.tup b) "bool" = some false := rfl
theorem inD_bls {α : Type} (f : α → Bool) (xs : List α) : inD (.bl true) (xs.map fun x => .bl (f x)) = xs.any f := by
  unfold inD
  rw [List.any_map]
  congr 1
  funext x
  show (f x == true) = f x
  cases f x <;> rfl
theorem okD_lst {n : Nat} {ds : List D} (h : ∀ d ∈ ds, dep n d) (hn : n ≤ 63) : okD (.lst ds) = true := dep_ok (dep_lst h) (by omega)
theorem okD_tup {n : Nat} {ds : List D} (h : ∀ d ∈ ds, dep n d) (hn : n ≤ 63) : okD (.tup ds) = true := dep_ok (dep_tup h) (by omega)
theorem okD_map {α : Type} {n : Nat} {f : α → D} {xs : List α} (h : ∀ x, dep n (f x)) (hn : n ≤ 63) : okD (.lst (xs.map f)) = true := okD_lst (n := n) (fun d hd => by
  obtain ⟨x, _, rfl⟩ := List.mem_map.mp hd
  exact h x) hn
end Vl
/-! Further rules: max(xs, default=d). -/
namespace Vl
open PySem PySem.Spec PyProof.Rows L2

/-- the greatest of some ints, or d -/
def maxOr (d : Int) : List Int → Int
  | [] => d
  | n :: ns => ns.foldl (fun a y => if decide (a < y) = true then y else a) n
theorem maxOr_foldl (ns : List Int) : ∀ n : Int, n ≤ ns.foldl (fun a y => if decide (a < y) = true then y else a) n ∧ (∀ y ∈ ns, y ≤ ns.foldl (fun a y => if decide (a < y) = true then y else a) n) ∧
    (ns.foldl (fun a y => if decide (a < y) = true then y else a) n = n ∨ ns.foldl (fun a y => if decide (a < y) = true then y else a) n ∈ ns) := by
  induction ns with
  | nil => intro n; exact ⟨Int.le_refl _, (fun _ h => nomatch h), .inl rfl⟩
  | cons m ns ih =>
    intro n
    rw [List.foldl_cons]
    by_cases h : n < m
    · rw [decide_eq_true h, if_pos rfl]
      obtain ⟨h1, h2, h3⟩ := ih m
      refine ⟨by omega, fun y hy => ?_, ?_⟩
      · rcases List.mem_cons.mp hy with rfl | hy
        · exact h1
        · exact h2 y hy
      · rcases h3 with h3 | h3
        · right; rw [h3]; exact List.mem_cons_self
        · right; exact List.mem_cons_of_mem _ h3
    · rw [decide_eq_false h, if_neg (by decide)]
      obtain ⟨h1, h2, h3⟩ := ih n
      refine ⟨h1, fun y hy => ?_, ?_⟩
      · rcases List.mem_cons.mp hy with rfl | hy
        · omega
        · exact h2 y hy
      · rcases h3 with h3 | h3
        · left; exact h3
        · right; exact List.mem_cons_of_mem _ h3
theorem maxOr_le {d : Int} {ns : List Int} {y : Int} (h : y ∈ ns) : y ≤ maxOr d ns := by
  cases ns with
  | nil => nomatch h
  | cons n ns =>
    obtain ⟨h1, h2, _⟩ := maxOr_foldl ns n
    rcases List.mem_cons.mp h with rfl | h
    · exact h1
    · exact h2 y h
theorem maxOr_mem {d : Int} {ns : List Int} (h : ns ≠ []) : maxOr d ns ∈ ns := by
  cases ns with
  | nil => exact absurd rfl h
  | cons n ns =>
    obtain ⟨_, _, h3⟩ := maxOr_foldl ns n
    rcases h3 with h3 | h3
    · show List.foldl _ n ns ∈ n :: ns
      rw [h3]; exact List.mem_cons_self
    · exact List.mem_cons_of_mem _ h3
def rMaxD (K : PySem.W.Frag) : List V → List V → Hp → VK → Prop := fun vs zs H Q => ∃ (a : Addr) (ns : List Int) (d : Int), vs = [.ref a] ∧ zs = [.int d] ∧ SqL K H a (ns.map V.int) ∧ Q (.int (maxOr d ns)) H
section
variable {X : Cx} {T : Tb}
theorem cr_maxD (hc : X.calm = true) (hu : X.A.units + 1 < cLine) : CallRK X (.builtin "max") [Str.ofString "default"] (rMaxD X.K) := by
  intro pins s σ H vs zs us ws Q I r rz h
  obtain ⟨a, ns, d, rfl, rfl, hs, q⟩ := h
  obtain rfl := Vals.ref1 r
  obtain ⟨w1, rfl, e1⟩ := vals1 rz
  obtain ⟨t, rfl⟩ := e1
  obtain ⟨its, rv, hl, hz⟩ := I.list hs
  refine PySem.W.max_list_datum_default (α := Int) (I.ok.hd hc) hl.isList (PySem.W.HoldAll.of_ints rv.ints) (by exact hu) (fun e h' tk k => ?_) (fun y ys i v h' tk e hi hv k => ?_)
  · subst e
    exact ⟨.int d, H, I.kept k, ⟨t, rfl⟩, q⟩
  · subst e
    obtain ⟨as, hr⟩ := hv
    have hr : Reads h' v (.int (PySem.W.maxOf y ys)) as := hr
    cases hr with
    | int _ t2 => exact ⟨.int _, H, I.kept k, ⟨t2, rfl⟩, q⟩
end
/-- max(e, default=d) -/
def aMaxD (a : AE) (d : Int) : AE := fun δ Q => a δ fun w => ∃ ns : List Int, lstC (argW w) = some (ns.map .int) ∧ Q (.cl (.int (maxOr d ns)))
section
variable {T : Tb} {X : Cx} {e : Expr} {x : AE} {p pos p2 kp : Pos} {d : Int} {j : Nat} {s : Str}
theorem e_maxD (hc : X.calm = true) (hu : X.A.units + 1 < cLine) (hTK : T.K = X.K) (hg : Gl X "max") (hm : X.mg "max" = none) (ha : PE X e (rdE T x)) (hs : starEach [e] X.env = (false, eval e X.env) :: starEach [] X.env := by rfl)
    (he : backTo pos (starEach [e] X.env) = (false, eval e X.env) :: backTo pos (starEach [] X.env) := by rfl) (hpl : (backTo pos (starEach [e] X.env)).any (·.1) = false := by rfl)
    (hall : (backToKw pos (keywordEach [⟨some "default", .Constant (.int d) j p2, kp⟩] X.env)).all (·.1.isSome) = true := by rfl) (hnone : (backToKw pos (keywordEach [⟨some "default", .Constant (.int d) j p2, kp⟩] X.env)).any (·.1.isNone) = false := by rfl)
    (hks : (backToKw pos (keywordEach [⟨some "default", .Constant (.int d) j p2, kp⟩] X.env)).filterMap (·.1) = [Str.ofString "default"] := by rfl) :
    PE X (.Call (.Name "max" p) [e] [⟨some "default", .Constant (.int d) j p2, kp⟩] pos) (rdE T (aMaxD x d)) := by
  refine (pe_callBK (cr_maxD hc hu) hg hm (by decide +kernel) (pa_cons ha pa_nil hs) (pk_cons pe_int pk_nil) (by decide) (by decide) he hpl hall hnone hks).mono fun σ H Q h => ?_
  obtain ⟨G, F, δ, P, R, h, k⟩ := h
  refine ⟨G, F, δ, _, R, h, fun w hw v F1 H1 g r => ?_⟩
  obtain ⟨ns, hn, q⟩ := hw
  obtain ⟨F2, g2, _, _, r2, _⟩ := RepW.arg g r
  obtain ⟨a, vs, rfl, hs, rr⟩ := r2.lst g2.ex hn
  rw [reps_ints rr] at hs
  exact ⟨a, ns, d, rfl, rfl, hTK ▸ hs, k _ q _ F2 H1 g2 (.int _)⟩
end
/-- max of one list of ints -/
def fMax1 : List W → (W → Prop) → Prop := one fun w Q => ∃ ns : List Int, lstC w = some (ns.map .int) ∧ 0 < ns.length ∧ ∀ m, m ∈ ns → (∀ y ∈ ns, y ≤ m) → Q (.cl (.int m))
theorem c_max1 {T : Tb} : CallV T (rMax T.K) fMax1 := by
  intro G F H F' H' xs ws P Q g r h k
  obtain ⟨x, w, rfl, rfl, rx, h⟩ := one_inv h r
  obtain ⟨ns, es, hne, q⟩ := h
  obtain ⟨p, vs, rfl, hs, rr⟩ := rx.lst g.ex es
  rw [reps_ints rr] at hs
  exact ⟨p, ns, rfl, hs, hne, fun m h1 h2 => k _ (q m h1 h2) _ _ _ g (.int _)⟩
theorem fMax1_eq (w : W) (Q : W → Prop) : fMax1 [w] Q = ∃ ns : List Int, lstC w = some (ns.map .int) ∧ 0 < ns.length ∧ ∀ m, m ∈ ns → (∀ y ∈ ns, y ≤ m) → Q (.cl (.int m)) := rfl
end Vl
/-! Own classes whose objects are made and read, never changed: fields, methods, C(..). -/
namespace Vl
open PySem PySem.Spec PyProof.Rows L2

theorem lookup_zip {β : Type} : ∀ {fs : List Str} {vs : List β} {j : Nat} {f : Str} {v : β}, fs.Nodup → fs[j]? = some f → vs[j]? = some v → (fs.zip vs).lookup f = some v
  | [], _, _, _, _, _, h, _ => by simp at h
  | _ :: _, [], _, _, _, _, _, h => by simp at h
  | g :: fs, w :: vs, 0, f, v, _, h1, h2 => by
    simp at h1 h2
    subst h1; subst h2
    simp [List.lookup]
  | g :: fs, w :: vs, j + 1, f, v, hn, h1, h2 => by
    have hf : f ∈ fs := List.mem_of_getElem? (by simpa using h1)
    have ne : (f == g) = false := beq_eq_false_iff_ne.mpr fun e => (List.nodup_cons.mp hn).1 (e ▸ hf)
    rw [List.zip_cons_cons, List.lookup_cons, ne]
    exact lookup_zip (List.nodup_cons.mp hn).2 (by simpa using h1) (by simpa using h2)
theorem lookup_zip_none {β : Type} : ∀ {fs : List Str} {vs : List β} {f : Str}, f ∉ fs → (fs.zip vs).lookup f = none
  | [], _, _, _ => rfl
  | _ :: _, [], _, _ => rfl
  | g :: fs, w :: vs, f, h => by
    have ne : (f == g) = false := beq_eq_false_iff_ne.mpr fun e => h (e ▸ List.mem_cons_self)
    rw [List.zip_cons_cons, List.lookup_cons, ne]
    exact lookup_zip_none fun q => h (List.mem_cons_of_mem _ q)
theorem putF_new {f : Str} {v : V} : ∀ {fs : List (Str × V)}, f ∉ fs.map (·.1) → putF f v fs = fs ++ [(f, v)]
  | [], _ => rfl
  | (g, x) :: r, h => by
    have ne : g ≠ f := fun e => h (by rw [e]; exact List.mem_cons_self)
    show (if g = f then (g, v) :: r else (g, x) :: putF f v r) = _
    rw [if_neg ne, putF_new fun q => h (List.mem_cons_of_mem _ q)]
    rfl
theorem putF_zip {fs : List Str} {vs : List V} {f : Str} {v : V} (hn : fs.Nodup) (hj : fs[vs.length]? = some f) : putF f v ((fs.take vs.length).zip vs) = (fs.take (vs ++ [v]).length).zip (vs ++ [v]) := by
  have hl : vs.length < fs.length := by
    apply Classical.byContradiction
    intro q
    rw [List.getElem?_eq_none_iff.mpr (by omega)] at hj
    cases hj
  have e1 : (vs ++ [v]).length = vs.length + 1 := by simp
  have e2 : fs.take (vs.length + 1) = fs.take vs.length ++ [f] := by rw [List.take_add_one, hj]; rfl
  have hlt : (fs.take vs.length).length = vs.length := by rw [List.length_take]; omega
  rw [e1, e2, List.zip_append hlt, putF_new]
  · rfl
  · rw [List.map_fst_zip (by omega)]
    intro q
    have h2 : (fs.take vs.length ++ [f]).Nodup := by rw [← e2]; exact List.Nodup.sublist (List.take_sublist _ _) hn
    rw [List.nodup_append] at h2
    exact h2.2.2 f q f (by simp) rfl

/-- a part of a borrowed, of an own tree, seen -/
def bwM : M → W
  | .cl d => .cl d
  | m => .bw m
def owM : M → W
  | .cl d => .cl d
  | m => .ow m
/-- e.f -/
def aFld (c j : Nat) (e : AE) : AE := fun δ Q => e δ fun w => match w with
  | .cl (.ins c' ds) => c' = c ∧ match ds[j]? with
    | some d => Q (.cl d)
    | none => False
  | .bw (.ti c' ms) => c' = c ∧ match ms[j]? with
    | some m => Q (bwM m)
    | none => False
  | .ow (.ti c' ms) => c' = c ∧ match ms[j]? with
    | some m => Q (owM m)
    | none => False
  | _ => False
/-- e.m(..) -/
def aMeth (c : Nat) (ct : Ct) (e : AE) (es : AA) : AE := fun δ Q => e δ fun w => match w with
  | .cl (.ins c' ds) => c' = c ∧ es δ fun ws => ct (.cl (.ins c' ds) :: ws) Q
  | .bw (.ti c' ms) => c' = c ∧ es δ fun ws => ct (.bw (.ti c' ms) :: ws) Q
  | .ow (.ti c' ms) => c' = c ∧ es δ fun ws => ct (.ow (.ti c' ms) :: ws) Q
  | _ => False
theorem Owns.at {T : Tb} {F H : Hp} : ∀ {vs : List V} {ms : List M} {A : List Addr} {j : Nat} {k : M}, Owns T F H vs ms A → ms[j]? = some k → ∃ u B, vs[j]? = some u ∧ Own T F H u k B ∧ ∀ a ∈ B, a ∈ A
  | _, _, _, _, _, .nil, h => by simp at h
  | _, _, _, 0, _, .cons o t d, h => by
    simp at h; subst h
    exact ⟨_, _, rfl, o, fun a q => List.mem_append_left _ q⟩
  | _, _, _, j + 1, _, .cons o t d, h => by
    obtain ⟨u, C, h1, h2, h3⟩ := Owns.at (j := j) t (by simpa using h)
    exact ⟨u, C, by simpa using h1, h2, fun a q => List.mem_append_right _ (h3 a q)⟩
theorem bwM_rep {T : Tb} {G : Gx} {Hs F H : Hp} {v : V} {m : M} {A : List Addr} (o : Own T F H v m A) (h : ∀ a ∈ A, a ∉ G.L ∧ G.H0 a ≠ none) : RepW T G Hs F H v (bwM m) := by
  cases m with
  | cl d => exact (own_clean o).1
  | fl _ => exact ⟨A, o, h⟩
  | fd _ _ _ => exact ⟨A, o, h⟩
  | tl _ => exact ⟨A, o, h⟩
  | td _ _ _ => exact ⟨A, o, h⟩
  | ti _ _ => exact ⟨A, o, h⟩
  | tp _ => exact ⟨A, o, h⟩
  | nd _ => exact ⟨A, o, h⟩
theorem owM_rep {T : Tb} {G : Gx} {Hs F H : Hp} {v : V} {m : M} {A : List Addr} (o : Own T F H v m A) : RepW T G Hs F H v (owM m) := by
  cases m with
  | cl d => exact (own_clean o).1
  | fl _ => exact ⟨A, o⟩
  | fd _ _ _ => exact ⟨A, o⟩
  | tl _ => exact ⟨A, o⟩
  | td _ _ _ => exact ⟨A, o⟩
  | ti _ _ => exact ⟨A, o⟩
  | tp _ => exact ⟨A, o⟩
  | nd _ => exact ⟨A, o⟩
/-- C(..) -/
abbrev Ini := List W → (List D → Prop) → Prop
def aMake (c : Nat) (ini : Ini) (es : AA) : AE := fun δ Q => es δ fun ws => ini ws fun ds => Q (.cl (.ins c ds))
/-- C(.., k = v) -/
def aMakeK (c n m : Nat) (ini : Ini) (es ks : AA) : AE := fun δ Q => es δ fun ws => ks δ fun zs => (ws.length = n ∧ zs.length = m) ∧ ini (ws ++ zs) fun ds => Q (.cl (.ins c ds))
/-- an argument of __init__: it stands apart from the object that is made -/
def ArgX (T : Tb) (F H : Hp) (x : Addr) (v : V) : W → Prop
  | .cl d => Rep T F v d
  | .bw m => ∃ A, Own T F H v m A ∧ x ∉ A
  | .ow m => ∃ A, Own T F H v m A ∧ x ∉ A
  | .fr _ => False
def ArgsX (T : Tb) (F H : Hp) (x : Addr) (us : List V) (ws : List W) : Prop := us.length = ws.length ∧ ∀ (i : Nat) (w : W), ws[i]? = some w → ∃ v, us[i]? = some v ∧ ArgX T F H x v w
/-- what __init__ promises -/
def spI (T : Tb) (c : Nat) (ini : Ini) : Sp := fun vs H Q _ => ∃ (F : Hp) (x dx : Addr) (us : List V) (ws : List W) (P : List D → Prop), vs = .ref x :: us ∧ H x = some (.ins (T.cl c) dx []) ∧ F x = none ∧ Same F H ∧ ArgsX T F H x us ws ∧ ini ws P ∧
  ∀ ds, P ds → ∀ F' H' vs', (∀ b o, b ≠ x → H b = some o → H' b = some o) → Same F F' → Same F' H' → (∀ a, H a ≠ none → NT H' a → F' a = F a) → H' x = some (.ins (T.cl c) dx ((T.fs c).zip vs')) → (T.fs c).length = vs'.length → Reps T F' vs' ds → Q .non H'
section
variable {T : Tb} {X : Cx} {e : Expr} {es : List Expr} {x : AE} {xs : AA} {pos p apos : Pos} {c j : Nat} {f m : Str}
theorem e_fld (hTK : T.K = X.K) (hC : Cls X.K (T.cl c)) (hn : NoAttr X.K (T.cl c) f) (hd : (T.fs c).Nodup) (hj : (T.fs c)[j]? = some f) (he : PE X e (rdE T x)) (hb : attributeBase e f X.env (eval e X.env) = eval e X.env := by rfl) :
    PE X (.Attribute e f pos) (rdE T (aFld c j x)) := (pe_fld he hb).mono fun σ H Q h => by
  obtain ⟨G, F, δ, P, R, h, k⟩ := h
  refine ⟨G, F, δ, _, R, h, fun w hw v F1 H1 g r => ?_⟩
  split at hw
  · rename_i c' ds
    obtain ⟨rfl, hw⟩ := hw
    split at hw
    · rename_i d hd2
      obtain ⟨a, dx, vs, rfl, ha, hl, rr⟩ := rep_ins r
      obtain ⟨v, hv, rv⟩ := rr.getD hd2
      exact ⟨a, _, dx, _, v, rfl, g.ex _ _ ha, hC, hn, lookup_zip hd hj hv, k _ hw v F1 H1 g rv⟩
    · exact hw.elim
  · rename_i c' ms
    obtain ⟨rfl, hw⟩ := hw
    split at hw
    · rename_i m hm
      obtain ⟨A, o, hA⟩ := r
      obtain ⟨a, dx, vs, B, rfl, rfl, ha, _, hl, _, t⟩ := own_ti o
      obtain ⟨u, C, hv, ou, hC2⟩ := t.at hm
      exact ⟨a, _, dx, _, u, rfl, ha, hC, hn, lookup_zip hd hj hv, k _ hw u F1 H1 g (bwM_rep ou fun x q => hA x (List.mem_cons_of_mem _ (hC2 x q)))⟩
    · exact hw.elim
  · rename_i c' ms
    obtain ⟨rfl, hw⟩ := hw
    split at hw
    · rename_i m hm
      obtain ⟨A, o⟩ := r
      obtain ⟨a, dx, vs, B, rfl, rfl, ha, _, hl, _, t⟩ := own_ti o
      obtain ⟨u, C, hv, ou, hC2⟩ := t.at hm
      exact ⟨a, _, dx, _, u, rfl, ha, hC, hn, lookup_zip hd hj hv, k _ hw u F1 H1 g (owM_rep ou)⟩
    · exact hw.elim
  · exact hw.elim
variable {k n : Nat} {fa : Addr} {fd : FuncData} {ps : List Str} {ct : Ct} {ini : Ini}
theorem e_meth {pl : Sem Bool} (hC : Cls X.K (T.cl c)) (hm : Meth X.K (T.cl c) m fa) (Fn : FnOk X.prog X.w X.K X.mg X.base CX0 k fa fd ps (spC T ct)) (hr : Room k X.A) (hb : Binds X.K fd ps []) (hno : m ∉ T.fs c) {o : Expr} {a : Expr} (ho : PE X o (rdE T x)) (ha : PA X (a :: es) (rdA T xs))
    (hst : starEach (a :: es) X.env = (false, eval a X.env) :: starEach es X.env := by rfl) (hpl : (backTo pos (starEach es X.env)).any (·.1) = false := by rfl)
    (ht : eval (.Call (.Attribute o m apos) (a :: es) [] pos) X.env = (do
      let ov ← eval o X.env
      standAt apos.atName
      let (f, first) ← holding [ov] (getMethod ov m pl)
      callWith pos f first (backTo pos (starEach (a :: es) X.env)) (backToKw pos (keywordEach [] X.env))) := by rfl) :
    PE X (.Call (.Attribute o m apos) (a :: es) [] pos) (rdE T (aMeth c ct x xs)) :=
  (pe_meth (E := E0) ho hC hm Fn hr hb .nil pass0 ha hst hpl ht).mono fun σ H Q h => by
    obtain ⟨G, F, δ, P, R, h, kk⟩ := h
    refine ⟨G, F, δ, _, R, h, fun w hw v F1 H1 g r => ?_⟩
    have fin : ∀ {w0 : W} {a dx : Addr} {vs : List V} {c' : Nat}, v = .ref a → c' = c → H1 a = some (.ins (T.cl c') dx ((T.fs c').zip vs)) → RepA T G F1 H1 (.ref a) w0 → (xs δ fun ws => ct (w0 :: ws) P) → tMeth (T.cl c) m (spC T ct) [] E0 (fun σ H Q => Q v H1) (rdA T xs) σ H1 Q := by
      rintro w0 a dx vs c' rfl rfl ha ra hw
      refine ⟨a, dx, _, rfl, ha, lookup_zip_none hno, ?_⟩
      refine ⟨G, F1, δ, _, R.go g, hw, fun ws hws us F2 H2 g2 r2 => ?_⟩
      show spC T ct (.ref a :: (us ++ [])) H2 Q _
      rw [List.append_nil]
      exact ⟨G, F2, w0 :: ws, P, g2.ex, .cons (ra.go g2) r2, hws, fun w hP v F3 H3 g3 r3 => kk w hP v F3 H3 ((g.trans g2).trans g3) ((RepR.toW r3).back (g.h.trans g2.h))⟩
    split at hw
    · rename_i c' ds
      obtain ⟨e1, hw⟩ := hw
      obtain ⟨a, dx, vs, rfl, ha, hl, rr⟩ := rep_ins r
      exact fin (w0 := .cl (.ins c' ds)) rfl e1 (g.ex _ _ ha) r hw
    · rename_i c' ms
      obtain ⟨e1, hw⟩ := hw
      obtain ⟨A, o, hA⟩ := r
      obtain ⟨a, dx, vs, B, rfl, rfl, ha, _⟩ := own_ti o
      exact fin (w0 := .bw (.ti c' ms)) rfl e1 ha ⟨_, o, hA⟩ hw
    · rename_i c' ms
      obtain ⟨e1, hw⟩ := hw
      obtain ⟨A, o⟩ := r
      obtain ⟨a, dx, vs, B, rfl, rfl, ha, _⟩ := own_ti o
      exact fin (w0 := .ow (.ti c' ms)) rfl e1 ha ⟨_, o⟩ hw
    · exact hw.elim
theorem argsX_of {G : Gx} {F H F' H' : Hp} {us : List V} {ws : List W} {x : Addr} (g : Go F H F' H') (hx : H x = none) (r : RepAs T G F H us ws) : ArgsX T F' H' x us ws := by
  refine ⟨r.length, fun i w hw => ?_⟩
  obtain ⟨v, hv, rv⟩ := r.get hw
  refine ⟨v, hv, ?_⟩
  cases w with
  | cl d => exact Rep.mono g.f rv
  | bw m => obtain ⟨A, o, _⟩ := rv; exact ⟨A, o.go g, fun q => (o.mem x q).1 hx⟩
  | ow m => obtain ⟨A, o⟩ := rv; exact ⟨A, o.go g, fun q => (o.mem x q).1 hx⟩
  | fr m => exact rv.elim
theorem rd_made {G : Gx} {F H F1 H1 : Hp} {us : List V} {ws : List W} {Q : VK} {P : W → Prop} {E : XK} (g : Go F H F1 H1) (r : RepAs T G F1 H1 us ws) (hw : ini ws fun ds => P (.cl (.ins c ds)))
    (kk : ∀ w, P w → ∀ v F' H', Go F H F' H' → RepW T G H F' H' v w → Q v H') (x dx : Addr) (hx : H1 x = none) (hdx : H1 dx = none) (ne : dx ≠ x) :
    spI T c ini (.ref x :: us) (upd (upd H1 dx (.own x)) x (.ins (T.cl c) dx [])) (fun v H2 => v = .non ∧ Q (.ref x) H2) E := by
  have hx2 : (upd H1 dx (.own x)) x = none := by rw [upd_ne ne.symm]; exact hx
  have g1 : Go F1 H1 F1 (upd (upd H1 dx (.own x)) x (.ins (T.cl c) dx [])) := ((Go.refl g.ex).lay hdx).lay hx2
  have fx : F1 x = none := g.ex.free hx
  refine ⟨F1, x, dx, us, ws, _, rfl, upd_same, fx, g1.ex, argsX_of g1 hx r, hw, fun ds hds F' H' vs' q1 q2 q3 q4 q5 q6 q7 => ⟨rfl, ?_⟩⟩
  have fx' : F' x = none := by rw [q4 x (by rw [upd_same]; simp) (nt_of q5)]; exact fx
  have h1 : Same H H' := fun b o e => q1 b o (ne_of_none (g.h _ _ e) hx) (g1.h _ _ (g.h _ _ e))
  refine kk _ hds _ (upd F' x (.ins (T.cl c) dx ((T.fs c).zip vs'))) H' ⟨h1, fun b o e => ?_, fun b o e => ?_, fun a ha => ?_⟩ (.ins upd_same q6 (q7.mono (Same.updN fx')))
  · have := g.f _ _ e
    rw [upd_ne (ne_of_none this fx)]
    exact q2 _ _ this
  · by_cases hb : b = x
    · subst hb
      rw [upd_same] at e
      rw [← e]; exact q5
    · rw [upd_ne hb] at e
      exact q3 _ _ e
  · have ha1 : H1 a ≠ none := Same.nn g.h ha
    have : a ≠ x := fun z => ha1 (z ▸ hx)
    intro na
    rw [upd_ne this, q4 a (Same.nn g1.h ha1) (Same.nt h1 ha na)]
    exact g.n a ha na
theorem e_make (M : Mk X.K (T.cl c) fa) (Fn : FnOk X.prog X.w X.K X.mg X.base CX0 k fa fd ps (spI T c ini)) (hr : Room (k + 1) X.A) (hg : Gl X f) (hm : X.mg f = some (.ref (T.cl c))) (hb : Binds X.K fd ps []) (ha : PA X (e :: es) (rdA T xs))
    (hdb : (f == ("__debug__" : Str)) = false := by decide) (he : starEach (e :: es) X.env = (false, eval e X.env) :: starEach es X.env := by rfl) (hpl : (backTo pos (starEach es X.env)).any (·.1) = false := by rfl) :
    PE X (.Call (.Name f p) (e :: es) [] pos) (rdE T (aMake c ini xs)) :=
  (pe_make (E := E0) M Fn hr hg hm hb .nil pass0 ha hdb he hpl).mono fun σ H Q h => by
    obtain ⟨G, F, δ, P, R, h, kk⟩ := h
    refine ⟨G, F, δ, _, R, h, fun ws hw us F1 H1 g r x dx hx hdx ne => ?_⟩
    rw [List.append_nil]
    exact rd_made g r hw kk x dx hx hdx ne
theorem RepAs.append {G : Gx} {F H : Hp} : ∀ {us vs : List V} {ws zs : List W}, RepAs T G F H us ws → RepAs T G F H vs zs → RepAs T G F H (us ++ vs) (ws ++ zs)
  | _, _, _, _, .nil, s => s
  | _, _, _, _, .cons r t, s => .cons r (RepAs.append t s)
variable {ks : List Str} {kws : List Keyword} {zs : AA} {g : List Value → List Value → List Value}
theorem k_cons {nm : Option Str} {kpos : Pos} (ha : PE X e (rdE T x)) (hr : PK X kws (rdA T zs)) : PK X (⟨nm, e, kpos⟩ :: kws) (rdA T (aCons x zs)) := ⟨fun pos pins s σ H Q I h => (pk_cons ha hr).run pos pins s σ H Q I (by
  obtain ⟨G, F, δ, P, R, h, k⟩ := h
  refine ⟨G, F, δ, _, R, h, fun w hw v F1 H1 g r => ?_⟩
  obtain ⟨F2, g2, _, _, r2, _⟩ := RepW.arg g r
  refine ⟨G, F2, δ, _, R.go g2, hw, fun ws hws vs F3 H3 g3 r3 => ?_⟩
  exact k _ hws (v :: vs) F3 H3 (g2.trans g3) (.cons (r2.toA.go g3) r3))⟩
theorem k_nil : PK X [] (rdA T aNil) := ⟨fun pos pins s σ H Q I h => pk_nil.run pos pins s σ H Q I (by
  obtain ⟨G, F, δ, P, R, h, k⟩ := h
  exact k _ h [] F H (Go.refl R.ex) .nil)⟩
theorem e_makeK (M : Mk X.K (T.cl c) fa) (Fn : FnOk X.prog X.w X.K X.mg X.base CX0 k fa fd ps (spI T c ini)) (hr : Room (k + 1) X.A) (hg : Gl X f) (hm : X.mg f = some (.ref (T.cl c))) (hb : KBn X.K fd ps (n + 1) ks g (fun vs zs => vs ++ zs)) (ha : PA X (e :: es) (rdA T xs)) (hkw : PK X kws (rdA T zs))
    (hall : (backToKw pos (keywordEach kws X.env)).all (·.1.isSome) = true := by rfl) (hks : (backToKw pos (keywordEach kws X.env)).filterMap (·.1) = ks := by rfl) (hdb : (f == ("__debug__" : Str)) = false := by decide)
    (he : starEach (e :: es) X.env = (false, eval e X.env) :: starEach es X.env := by rfl) (hpl : ((backTo pos (starEach (e :: es) X.env)).any (·.1) || (backToKw pos (keywordEach kws X.env)).any (·.1.isNone)) = false := by rfl) :
    PE X (.Call (.Name f p) (e :: es) kws pos) (rdE T (aMakeK c n ks.length ini xs zs)) :=
  (pe_makeK (E := E0) M Fn hr hg hm hb pass0 ha hkw hall hks hdb he hpl).mono fun σ H Q h => by
    obtain ⟨G, F, δ, P, R, h, kk⟩ := h
    refine ⟨G, F, δ, _, R, h, fun ws hw us F1 H1 g r => ⟨G, F1, δ, _, R.go g, hw, fun zs hz vs F2 H2 g2 r2 => ?_⟩⟩
    obtain ⟨⟨l1, l2⟩, hz⟩ := hz
    refine ⟨r.length.trans l1, r2.length.trans l2, fun x dx hx hdx ne => ?_⟩
    exact rd_made (g.trans g2) ((r.go g2).append r2) hz kk x dx hx hdx ne
end

/-! ### __init__ -/
structure IniS (T : Tb) (c : Nat) (G : Gx) (F H : Hp) (σ : L2.St) (δ : List AV) (x dx : Addr) (vs : List V) (ds : List D) : Prop where
  R : RepS T G F H σ δ
  L : G.L = [x]
  g0 : σ[0]? = some (some (.ref x))
  ob : H x = some (.ins (T.cl c) dx (((T.fs c).take vs.length).zip vs))
  ln : vs.length ≤ (T.fs c).length
  sm : (T.fs c).length < 1000
  fx : F x = none
  rp : Reps T F vs ds
  ns : ∀ i l m v A, gt δ i = .ow l m → gs σ i = some v → Own T F H v m A → x ∉ A
abbrev AF := List AV → List D → (List D → Prop) → Prop
def rdF (T : Tb) (c : Nat) (a : AF) : TS := fun D σ H => ∃ G F δ x dx vs ds P, IniS T c G F H σ δ x dx vs ds ∧ a δ ds P ∧ ∀ ds', P ds' → ∀ F' H' vs', Same F F' → IniS T c G F' H' σ δ x dx vs' ds' → D.nx σ H'
def aF (n : Nat) (x : AE) : AF := fun δ ds P => ds.length = n ∧ x δ fun w => match clW w with
  | some d => P (ds ++ [d])
  | none => False
def aFs (a b : AF) : AF := fun δ ds P => a δ ds fun ds' => b δ ds' P
section
variable {T : Tb} {X : Cx} {e : Expr} {st : Stmt} {rest : List Stmt} {x : AE} {pos p1 p2 : Pos} {c n : Nat} {f s : Str} {a b : AF}
theorem i_fld (hTK : T.K = X.K) (hC : Cls X.K (T.cl c)) (hn : NoAttr X.K (T.cl c) f) (hd : (T.fs c).Nodup) (hj : (T.fs c)[n]? = some f) (hN : X.N[0]? = some s) (he : PE X e (rdE T x)) (hs : swapsWith e (some (.Attribute (.Name s p1) f p2)) pos.line X.env = pure false := by rfl)
    (hv : Vis X.env.scope s := by first | exact Or.inl rfl | exact Or.inr (Or.inl rfl) | exact Or.inr (Or.inr rfl)) (hdd : (s == ("__debug__" : Str)) = false := by decide) (hcd : (s == ("__classdict__" : Str)) = false := by decide) : PS X (.Assign [.Attribute (.Name s p1) f p2] e pos) (rdF T c (aF n x)) :=
  (ps_fld (pe_var hN hv hdd hcd) he hs).mono fun D σ H h => by
    obtain ⟨G, F, δ, x, dx, vs, ds, P, S, ⟨hl, h⟩, k⟩ := h
    refine ⟨G, F, δ, _, S.R, h, fun w hw v F1 H1 g r => ?_⟩
    split at hw
    · rename_i d hd2
      obtain ⟨F2, g2, r2⟩ := clW_rep g r hd2
      have hob := g2.h _ _ S.ob
      have hvl : vs.length = n := S.rp.length.trans hl
      refine ⟨_, S.g0, x, _, dx, _, rfl, hob, hC, hn, ?_, ?_⟩
      · rw [List.length_zip, List.length_take]
        have := S.sm
        have := S.ln
        omega
      · have hfx : F2 x = none := by rw [g2.n x (by rw [S.ob]; simp) (nt_of S.ob)]; exact S.fx
        rw [putF_zip hd (by rw [hvl]; exact hj)]
        have R2 := S.R.go g2
        have hlt : vs.length < (T.fs c).length := by
          apply Classical.byContradiction
          intro q
          rw [List.getElem?_eq_none_iff.mpr (by omega)] at hj
          cases hj
        have ns2 : ∀ i l m v A, gt δ i = .ow l m → gs σ i = some v → Own T F2 H1 v m A → x ∉ A := fun i l m v A e1 e2 o => by
          obtain ⟨v', A', q1, q2, _⟩ := S.R.own e1
          rw [e2] at q1; cases q1
          cases Own.det o (q2.go g2)
          exact S.ns i l m _ _ e1 e2 q2
        have hn : ∀ {w m A}, Own T F2 H1 w m A → x ∉ A → Own T F2 (upd H1 x (.ins (T.cl c) dx (((T.fs c).take (vs ++ [v]).length).zip (vs ++ [v])))) w m A := fun {w m A} o hx => o.keep (Same.refl _) (fun a q => upd_ne fun z => hx (z ▸ q)) fun a q => (o.mem a q).2
        refine k _ hw F2 _ (vs ++ [v]) g2.f ⟨⟨?_, ?_, ?_, R2.lh, R2.f0, (fun a h l n => R2.fn a h l (n.upd (nt_of hob))), R2.len, ?_, ?_⟩, S.L, S.g0, upd_same, by rw [List.length_append, List.length_singleton]; omega, S.sm, hfx, (S.rp.mono g2.f).snoc r2, ?_⟩
        · intro q o e
          rw [upd_ne (ne_of_none e hfx)]; exact R2.ex _ _ e
        · intro q o e hq
          have : q ≠ x := fun z => hq (by rw [S.L, z]; exact List.mem_cons_self)
          rw [upd_ne this]; exact R2.fr q o e hq
        · intro q hq z
          by_cases e : q = x
          · rw [e, upd_same] at z; cases z
          · rw [upd_ne e] at z; exact R2.th q hq z
        · intro i
          have q := R2.sl i
          revert q
          generalize hg : gt δ i = av
          intro q
          cases av with
          | non => trivial
          | im d => exact q
          | bw m =>
            obtain ⟨w, A, e1, o, hA⟩ := q
            exact ⟨w, A, e1, hn o fun z => (hA x z).1 (by rw [S.L]; exact List.mem_cons_self), hA⟩
          | ow l m =>
            obtain ⟨w, A, e1, o, hA⟩ := q
            exact ⟨w, A, e1, hn o (ns2 i l m w A hg e1 o), hA⟩
        · intro i j l l' m m' u w A B ne e1 e2 e3 e4 o1 o2
          obtain ⟨u', A', q1, q2, _⟩ := R2.own e1
          obtain ⟨w', B', q3, q4, _⟩ := R2.own e2
          rw [e3] at q1; cases q1
          rw [e4] at q3; cases q3
          cases Own.det o1 (hn q2 (ns2 _ _ _ _ _ e1 e3 q2))
          cases Own.det o2 (hn q4 (ns2 _ _ _ _ _ e2 e4 q4))
          exact R2.dj i j l l' m m' _ _ _ _ ne e1 e2 e3 e4 q2 q4
        · intro i l m u A e1 e2 o
          obtain ⟨u', A', q1, q2, _⟩ := R2.own e1
          rw [e2] at q1; cases q1
          cases Own.det o (hn q2 (ns2 _ _ _ _ _ e1 e2 q2))
          exact ns2 _ _ _ _ _ e1 e2 q2
    · exact hw.elim
theorem i_one (h1 : PS X st (rdF T c a)) : PSs X [st] (rdF T c a) := pss_one h1
theorem i_cons (h1 : PS X st (rdF T c a)) (h2 : PSs X rest (rdF T c b)) : PSs X (st :: rest) (rdF T c (aFs a b)) := (pss_cons h1 h2).mono fun D σ H h => by
  obtain ⟨G, F, δ, x, dx, vs, ds, P, S, h, k⟩ := h
  exact ⟨G, F, δ, x, dx, vs, ds, _, S, h, fun ds' q F' H' vs' s S' => ⟨G, F', δ, x, dx, vs', ds', P, S', q, fun ds2 q2 F2 H2 vs2 s2 S2 => k ds2 q2 F2 H2 vs2 (s.trans s2) S2⟩⟩
end
theorem repS_ini {T : Tb} {F H : Hp} {x dx : Addr} {C : Addr} {vs : List V} {ws : List W} (sm : Same F H) (r : ArgsX T F H x vs ws) (hx : H x = some (.ins C dx [])) (Nm : List Str) (hNm : Nm.length = vs.length + 1) : RepS T ⟨H, F, [x], .non⟩ F H (L2.start Nm (.ref x :: vs)) (.non :: ws.map avOf) := by
  have hl := r.1
  have hst : ∀ i, gs (L2.start Nm (.ref x :: vs)) (i + 1) = vs[i]? := fun i => by
    unfold gs L2.start
    rw [List.getD_eq_getElem?_getD]
    by_cases hi : i < vs.length
    · rw [List.getElem?_append_left (by simpa using hi), List.getElem?_map, List.getElem?_cons_succ]
      cases vs[i]? <;> rfl
    · rw [List.getElem?_append_right (by simpa using hi), List.getElem?_replicate, List.getElem?_eq_none_iff.mpr (by omega)]
      split <;> rfl
  have hgt : ∀ i, gt (AV.non :: ws.map avOf) (i + 1) = ((ws[i]?).map avOf).getD .non := fun i => by
    unfold gt
    rw [List.getD_eq_getElem?_getD, List.getElem?_cons_succ, List.getElem?_map]
  refine ⟨sm, fun a o h _ => h, fun a h => h, fun a h => by rw [List.mem_singleton.mp h]; show H x ≠ none; rw [hx]; simp, Same.refl _, fun a _ _ _ => rfl, ?_, fun i => ?_, fun i j l l' m m' u w A B ne e1 => ?_⟩
  · unfold L2.start
    simp [hl, hNm]
  · cases i with
    | zero => trivial
    | succ i =>
      rw [hst, hgt]
      cases e : ws[i]? with
      | none => trivial
      | some w =>
        obtain ⟨v, hv, rv⟩ := r.2 i w e
        rw [hv]
        cases w with
        | cl d => exact ⟨v, rfl, rv⟩
        | bw m =>
          obtain ⟨A, o, hA⟩ := rv
          exact ⟨v, A, rfl, o, fun a q => ⟨fun z => hA (List.mem_singleton.mp z ▸ q), (o.mem a q).1⟩⟩
        | ow m =>
          obtain ⟨A, o, hA⟩ := rv
          exact ⟨v, A, rfl, o, fun a q => ⟨fun z => hA (List.mem_singleton.mp z ▸ q), (o.mem a q).1⟩⟩
        | fr m => exact rv.elim
  · cases i with
    | zero => cases e1
    | succ i =>
      rw [hgt] at e1
      cases e : ws[i]? with
      | none => rw [e] at e1; cases e1
      | some w => rw [e] at e1; cases w <;> cases e1
section
variable {T : Tb} {P : Program} {wd : World} {K : PySem.W.Frag} {mg : Str → Option Value} {base : Heap} {f : Addr} {fd : FuncData} {k c : Nat} {ini : Ini} {a : AF}
theorem ini_read {H : Hp} {vs : List V} {Q : VK} {E : XK} {N : List Str} (len : ∀ ws P, ini ws P → ws.length + 1 = N.length) (hsm : (T.fs c).length < 1000) (hw : ∀ ws P, ini ws P → a (.non :: ws.map avOf) [] fun ds => ds.length = (T.fs c).length ∧ P ds) (h : spI T c ini vs H Q E) :
    vs.length = N.length ∧ rdF T c a { nx := fun _ H' => Q .non H', rt := Q } (L2.start N vs) H := by
  obtain ⟨F, x, dx, us, ws, P, rfl, hx, fx, sm, r, hi, kk⟩ := h
  have hN : N.length = us.length + 1 := by rw [r.1, len ws P hi]
  refine ⟨by rw [hN]; rfl, _, F, _, x, dx, [], [], _, ⟨repS_ini sm r hx N hN, rfl, ?_, ?_, Nat.zero_le _, hsm, fx, .nil, fun i l m v A e => ?_⟩, hw ws P hi, fun ds ⟨hl, hP⟩ F' H' vs' s S => ?_⟩
  · unfold L2.start
    rfl
  · rw [hx]; rfl
  · cases i with
    | zero => cases e
    | succ i =>
      unfold gt at e
      rw [List.getD_eq_getElem?_getD, List.getElem?_cons_succ, List.getElem?_map] at e
      cases e2 : ws[i]? with
      | none => rw [e2] at e; cases e
      | some w => rw [e2] at e; cases w <;> cases e
  · have hvl : vs'.length = (T.fs c).length := S.rp.length.trans hl
    have ho := S.ob
    rw [hvl, List.take_length] at ho
    exact kk ds hP F' H' vs' (fun b o hb e => S.R.fr b o e (by simpa using hb)) s S.R.ex (fun a h n => by
      by_cases q : a = x
      · subst q; exact S.fx.trans fx.symm
      · exact S.R.fn a h (fun z => q (List.mem_singleton.mp z)) n) ho hvl.symm S.rp
theorem fn_ini {y qual : Str} {st : Stmt} {N : List Str} (Fn : Fun K y qual st f fd) (S : FnScope N N (defScope st)) (len : ∀ ws P, ini ws P → ws.length + 1 = N.length) (hsm : (T.fs c).length < 1000)
    (hd : ∀ (cdv : Value) (A : Around) (outer : List Env) (s : Shared) (H : Hp) (E : XK), Room k (A.deeper (envOfC qual (defScope st) s.heap.objs.size f cdv)) →
      PSs (cxOf CX0 P wd K mg base N qual (defScope st) f cdv A outer s H E).nox (defBody st) (rdF T c a))
    (hw : ∀ ws P, ini ws P → a (.non :: ws.map avOf) [] fun ds => ds.length = (T.fs c).length ∧ P ds) : FnOk P wd K mg base CX0 (k + 1) f fd N (spI T c ini) :=
  Fn.ok S (fun vs H Q E h => (ini_read len hsm hw h).1) (fun cdv A outer s H vs Q E hr h => ⟨_, hd cdv A outer s H E hr, (ini_read len hsm hw h).2⟩)
theorem fn_iniD {y qual : Str} {params : Arguments} {body : List Stmt} {scope : Scope} {dvs : List V} {kws : List (Str × V)} {N : List Str} (Fn : FunD K y qual params body scope dvs kws f fd) (S : FnScope N N scope) (len : ∀ ws P, ini ws P → ws.length + 1 = N.length) (hsm : (T.fs c).length < 1000)
    (hd : ∀ (cdv : Value) (A : Around) (outer : List Env) (s : Shared) (H : Hp) (E : XK), Room k (A.deeper (envOfC qual scope s.heap.objs.size f cdv)) →
      PSs (cxOf CX0 P wd K mg base N qual scope f cdv A outer s H E) body (rdF T c a))
    (hw : ∀ ws P, ini ws P → a (.non :: ws.map avOf) [] fun ds => ds.length = (T.fs c).length ∧ P ds) : FnOk P wd K mg base CX0 (k + 1) f fd N (spI T c ini) :=
  Fn.ok S (fun vs H Q E h => (ini_read len hsm hw h).1) (fun cdv A outer s H vs Q E hr h => ⟨_, hd cdv A outer s H E hr, (ini_read len hsm hw h).2⟩)
end
theorem kb_mk {K : PySem.W.Frag} {x qual : Str} {st : Stmt} {f : Addr} {fd : FuncData} {ps ks : List Str} {n : Nat} (F : Fun K x qual st f fd)
    (h : ∀ (kV doc pm : Value) (an : Option Addr) (cdv ct : Value) (us ws : List Value), us.length = n → ws.length = ks.length → bindArgs (PySem.W.fnOf x qual (defArgs st) (defBody st) (defScope st) .none kV doc pm an cdv ct) ⟨us, ks.zip ws⟩ = pure (ps.zip (us ++ ws))) :
    KBn K fd ps n ks (fun us ws => us ++ ws) (fun vs zs => vs ++ zs) := by
  obtain ⟨oc, od, kV, doc, pm, an, cdv, ct, osl, rfl, lk, hcd⟩ := F.ex
  exact ⟨fun s us ws _ l1 l2 => .of_eq (h kV doc pm an cdv ct us ws l1 l2), fun r1 r2 => r1.append r2⟩
/-! ### xs.insert(i, d), sorted(xs) -/
def mInsert : FM := fun m ws P => match m, ws with
  | .fl ds, [.cl (.int i), .cl d] => (ds.length < 1000000 ∧ 0 ≤ i ∧ i < 2 ^ 63) ∧ P (.fl (ds.take i.toNat ++ [d] ++ ds.drop i.toNat)) .non
  | _, _ => False
def rInsert : V → List V → Hp → VK → Prop := fun x vs H Q => ∃ (l : Addr) (xs : List V) (i : Int) (y : V), x = .ref l ∧ vs = [.int i, y] ∧ H l = some (.lst xs) ∧ xs.length < sizeLine ∧ 0 ≤ i ∧ i < 2 ^ 63 ∧ Q .non (upd H l (.lst (xs.take i.toNat ++ [y] ++ xs.drop i.toNat)))
def fSorted : List W → (W → Prop) → Prop := one fun w Q => ∃ ns : List Int, lstC w = some (ns.map .int) ∧ ns.length < 64 ∧ ∀ ms : List Int, ms.Perm ns → ms.Pairwise (· ≤ ·) → Q (.fr (.fl (ms.map .int)))
theorem m_insert {T : Tb} : MutV T rInsert mInsert := by
  intro G F H v m A xs ws P Q sm ow ra h k
  unfold mInsert at h
  split at h
  · rename_i ds i d
    obtain ⟨p, vs, rfl, rfl, ho, hf, r⟩ := own_fl ow
    obtain ⟨⟨h1, h2, h3⟩, h⟩ := h
    cases ra with
    | cons r2 t =>
      cases t with
      | cons r3 t =>
        cases t
        exact ⟨p, vs, i, _, rfl, by rw [rep_int r2], ho, by rw [r.length]; exact dSz_lt h1, h2, h3, k _ _ h _ _ _ (chg_upd sm List.mem_cons_self hf) (.fl upd_same hf (((r.take _).snoc r3).append (r.drop _))) (fun _ q => q) .non⟩
  · exact h.elim
theorem mt_insertA {X : Cx} : MtR X "list.insert" rInsert := mt_insert
theorem c_sorted {T : Tb} : CallV T (rSorted T.K) fSorted := by
  intro G F H F' H' xs ws P Q g r h k
  obtain ⟨x, w, rfl, rfl, rx, h⟩ := one_inv h r
  obtain ⟨ns, es, hl, q⟩ := h
  obtain ⟨p, vs, rfl, hs, rr⟩ := rx.lst g.ex es
  rw [reps_ints rr] at hs
  exact ⟨p, ns, rfl, hs, hl, fun ms l hp hs2 hl2 => new_list g (reps_of_ints ms) (q ms hp hs2) k hl2⟩
/-! ### xs.index(d) -/
def ixOf (x : D) : List D → Nat
  | [] => 0
  | d :: ds => if eqD d x = true then 0 else ixOf x ds + 1
def aIndex (o : AE) (es : AA) : AE := fun δ Q => o δ fun w => match itemsC w with
  | some ds => es δ fun ws => match ws with
    | [.cl x] => (okD x = true ∧ okD (.lst ds) = true ∧ inD x ds = true) ∧ Q (.cl (.int (ixOf x ds : Nat)))
    | _ => False
  | none => False
theorem ixOf_at (x : D) : ∀ {ds : List D}, inD x ds = true → ∃ z, ds[ixOf x ds]? = some z ∧ eqD z x = true ∧ ∀ m z', m < ixOf x ds → ds[m]? = some z' → eqD z' x = false
  | [], h => by simp [inD] at h
  | d :: ds, h => by
    unfold ixOf
    by_cases q : eqD d x = true
    · rw [if_pos q]
      exact ⟨d, rfl, q, fun m z' hm => by omega⟩
    · rw [if_neg q]
      have h2 : inD x ds = true := by
        unfold inD at h ⊢
        rw [List.any_cons] at h
        simpa [q] using h
      obtain ⟨z, h3, h4, h5⟩ := ixOf_at x h2
      refine ⟨z, by simpa using h3, h4, fun m z' hm hz => ?_⟩
      cases m with
      | zero => simp at hz; subst hz; simpa using q
      | succ m => exact h5 m z' (by omega) (by simpa using hz)
section
variable {T : Tb} {X : Cx} {e o : Expr} {es : List Expr} {x : AE} {xs : AA} {pos apos : Pos}
theorem e_index (hTK : T.K = X.K) (hu : X.A.units + 65 < cLine) (ho : PE X o (rdE T x)) (ha : PA X (e :: es) (rdA T xs))
    (hbase : attributeBase o "index" X.env (eval o X.env) = eval o X.env := by rfl)
    (hfew : ((backTo pos (starEach (e :: es) X.env)).all (fun x => !x.1) && (backToKw pos (keywordEach [] X.env)).all (fun x => x.1.isSome)
      && decide ((e :: es).length + ([] : List Keyword).length + (if ([] : List Keyword).isEmpty then 0 else 1) < 30)) = true := by rfl)
    (hline : (apos.endLine == pos.line) = true := by rfl) (hs : starEach (e :: es) X.env = (false, eval e X.env) :: starEach es X.env := by rfl) (hplain : (backTo pos (starEach es X.env)).any (·.1) = false := by rfl) :
    PE X (.Call (.Attribute o "index" apos) (e :: es) [] pos) (rdE T (aIndex x xs)) :=
  (pe_bm PySem.F.plainAttrs_list PySem.F.slot_list_index PySem.F.type_list_index (mt_indexD hu) ho ha hbase hfew hline hs hplain).mono fun σ H Q h => by
    obtain ⟨G, F, δ, P, R, h, k⟩ := h
    refine ⟨G, F, δ, _, R, h, fun w hw v F1 H1 g r => ?_⟩
    split at hw
    · rename_i ds hd
      obtain ⟨p, vs, rfl, hp, rr⟩ := r.items g.ex hd
      refine ⟨.inl ⟨rfl, _, SqL.of hp⟩, G, F1, δ, _, R.go g, hw, fun ws hws us F2 H2 g2 r2 => ?_⟩
      split at hws
      · rename_i y
        obtain ⟨⟨o1, o2, h3⟩, q⟩ := hws
        cases r2 with
        | cons ry t =>
          cases t
          obtain ⟨z, h4, h5, h6⟩ := ixOf_at y h3
          have o3 : PyData.canLayAll0 (pds ds) = true := by simpa [pd, PyData.canLay0] using SeqAt.canLay_of_shaped o2
          have hp2 := g2.h _ _ hp
          refine ⟨p, _, pd y, pds ds, ixOf y ds, pd z, rfl, rfl, .lst (hTK ▸ SqL.of hp2) (hTK ▸ ((rr.mono g2.f).mono g2.ex).dp o3), hTK ▸ (Rep.mono g2.ex ry).dpo o1, o2, o1, by rw [pds_map, List.getElem?_map, h4]; rfl, h5, fun m z' hm hz => ?_, k _ q _ F2 H2 (g.trans g2) (.int _)⟩
          rw [pds_map, List.getElem?_map] at hz
          cases e : ds[m]? with
          | none => rw [e] at hz; cases hz
          | some d =>
            rw [e] at hz
            cases hz
            exact h6 m d hm e
      · exact hws.elim
    · exact hw.elim
end
theorem fSorted_eq (w : W) (Q : W → Prop) : fSorted [w] Q = ∃ ns : List Int, lstC w = some (ns.map .int) ∧ ns.length < 64 ∧ ∀ ms : List Int, ms.Perm ns → ms.Pairwise (· ≤ ·) → Q (.fr (.fl (ms.map .int))) := rfl
end Vl
/-! Swapped stores; isinstance of an own class; != of lists whose data are equal; == of an own class. -/
namespace GQ
open PySem PySem.SeqAt
open AutoSeq1 (wpAny_loadPart')
open MeetsSeq MeetsSeq2 MeetsSeq3 SeqRoads2
section
variable {prog : Program} {w : World} {A : Around} {R : Result → Shared → Prop}
theorem ne_loopG (l b : Addr) (N : Nat) (I : Nat → Shared → Prop) (hl : ListI prog w A (fun e s' => R (.error e) s') l b N I)
    (fin : ∀ s, I N s → R (.ok (.ret (.bool false))) s) (k : Nat) :
    ∀ i : Nat, N - i = k → i ≤ N → ∀ s, I i s →
      wpAny (model prog w) A.in1 (Builtin.«list.__eq__.loop» ⟨[.ref l, .ref b, rawInt i, rawInt 3], []⟩) (FinOf prog w A R) (fun e s' => R (.error e) s') s := by
  induction k with
  | zero =>
    intro i hk hi s h
    obtain ⟨items, items2, n, n2, hl1, hb1, hs1, hs2, _⟩ := hl _ _ h
    have hi' : i = N := by omega
    have hR : R (.ok (.ret (.bool false))) s := fin s (hi' ▸ h)
    obtain ⟨hp, g, d, tk, os⟩ := s
    wp_walk using wpAny_loadPart' hl1, wpAny_loadPart' hb1
    have hi1 : items[((i : Nat) : Int).toNat]? = none := by simp; omega
    have hi2 : items2[((i : Nat) : Int).toNat]? = none := by simp; omega
    rw [hi1, hi2]
    wp_walk using wpAny_loadPart' hl1, wpAny_loadPart' hb1
    show R (.ok (.ret (.bool (items.size != items2.size)))) _
    rw [hs1, hs2]
    simpa using hR
  | succ k ih =>
    intro i hk hi s h
    obtain ⟨items, items2, n, n2, hl1, hb1, hs1, hs2, turn⟩ := hl _ _ h
    have hlt : i < items.size := by omega
    have hlt2 : i < items2.size := by omega
    have ht := turn hlt hlt2
    obtain ⟨hp, g, d, tk, os⟩ := s
    wp_walk using wpAny_loadPart' hl1, wpAny_loadPart' hb1
    have hi1 : items[((i : Nat) : Int).toNat]? = some items[i] := by simp [hlt]
    have hi2 : items2[((i : Nat) : Int).toNat]? = some items2[i] := by simp [hlt2]
    have hc : ((i : Int) + 1) = ((i + 1 : Nat) : Int) := by omega
    rw [hi1, hi2]
    refine wpAny_bind (wpAny_mono ht (fun r s2 h2 => ?_) fun _ _ x => x)
    obtain ⟨hr, h2⟩ := h2
    subst hr
    have hrec := ih (i + 1) (by omega) (by omega) s2 h2
    obtain ⟨hp2, g2, d2, tk2, os2⟩ := s2
    wp_walk
    rw [hc]
    exact ⟨plainId_quiet plain_eq_loop _, codeAny_builtin entry_eq_loop (by
      rw [Around.under_plainId plain_eq_loop _]
      exact hrec)⟩
theorem list_neG (l b : Addr) (N : Nat) (I : Nat → Shared → Prop) (hl : ListI prog w A (fun e s' => R (.error e) s') l b N I)
    (fin : ∀ s, I N s → R (.ok (.ret (.bool false))) s) {s : Shared} (h : I 0 s) :
    wpAny (model prog w) A.in1 (Builtin.«list.__ne__» ⟨[.ref l, .ref b], []⟩) (FinOf prog w A R) (fun e s' => R (.error e) s') s := by
  obtain ⟨items, items2, n, n2, hl1, hb1, hs1, hs2, _⟩ := hl _ _ h
  have hrec := ne_loopG (A := A) (R := R) l b N I hl fin _ 0 rfl (Nat.zero_le _) s h
  obtain ⟨hp, g, d, tk, os⟩ := s
  have f3 := AutoSeq1.sub_list_list
  have hne : ¬ (items.size != items2.size) = true := by simp [hs1, hs2]
  wp_walk using wpAny_loadPart' hl1, wpAny_loadPart' hb1
  exact ⟨plainId_quiet plain_eq_loop _, codeAny_builtin entry_eq_loop (by
    rw [Around.under_plainId plain_eq_loop _]
    exact hrec)⟩
end
section
variable {prog : Program} {w : World} {A : Around} {E : Value → Shared → Prop} {s : Shared}
theorem rc_nlistG {l b : Addr} {N : Nat} {Q : Value → Shared → Prop} (hu : A.units < cLine) (I : Nat → Shared → Prop) (hl : ListI prog w A E l b N I)
    (fin : ∀ s, I N s → Q (.bool false) s) (h : I 0 s) : wpAny (model prog w) A (richCompare .NotEq (.ref l) (.ref b)) Q E s := by
  obtain ⟨items, items2, n, n2, hl1, hb1, _, _, _⟩ := hl _ _ h
  refine wpAny_richCompare_same_room (op := .NotEq) ⟨_, hl1, rfl⟩ ⟨_, hb1, rfl⟩ F.slot_list_ne (call_here F.slot_list_ne ⟨_, hl1, rfl⟩ F.entry_list_ne (F.args_list_ne_2 _ _) ?_) hu
  exact list_neG (R := wants (fun v s' => v ≠ .notImplemented ∧ Q v s') E) l b N I hl (fun s' q => ⟨(fun x => nomatch x), fin s' q⟩) h
end
end GQ
namespace Vl
open PySem PySem.Spec PyProof.Rows L2
/-! ### a, b = x, y -/
def aPar (i j : Nat) (es : AA) : AS := fun E δ => es δ fun ws => match ws with
  | [.cl d, .cl e] => E.nx ((δ.set i (.im d)).set j (.im e))
  | _ => False
section
variable {T : Tb} {X : Cx} {i j : Nat} {x y : Str} {a b : Expr} {xs : AA} {px py pt pos : Pos} {kt k2 pt2}
theorem s_par (hc : X.calm = true) (hN : X.N.Nodup) (hi : X.N[i]? = some x) (hj : X.N[j]? = some y) (hij : i ≠ j) (hx : X.env.scope.names.lookup x = some .local) (hy : X.env.scope.names.lookup y = some .local) (ha : PA X [a, b] (rdA T xs))
    (hw : swappedStores [.Tuple [.Name x px, .Name y py] kt pt] (.Tuple [a, b] k2 pt2) X.env = pure (some [x, y])) (hs : swapsWithSole [.Tuple [.Name x px, .Name y py] kt pt] (.Tuple [a, b] k2 pt2) pos.line X.env = pure false := by rfl) :
    PS X (.Assign [.Tuple [.Name x px, .Name y py] kt pt] (.Tuple [a, b] k2 pt2) pos) (rdS T (aPar i j xs)) := (ps_par hc hN hi hj hij hx hy ha hw hs).mono fun D' σ H h => by
  obtain ⟨G, F, δ, E, R, h, k⟩ := h
  refine ⟨G, F, δ, _, R, h, fun ws hw vs F1 H1 g r => ?_⟩
  split at hw
  · rename_i d e
    cases r with
    | cons r1 t =>
      cases t with
      | cons r2 t =>
        cases t
        exact ⟨_, _, rfl, k.nx _ hw F1 H1 _ g.f ((((R.go g).put (a := .im d) ⟨_, rfl, r1⟩ fun _ _ e => nomatch e)).put (a := .im e) ⟨_, rfl, r2⟩ fun _ _ e => nomatch e)⟩
  · exact hw.elim
end
/-! ### isinstance(x, C), C an own class -/
def aIsO (c : Nat) (e : AE) : AE := fun δ Q => e δ fun w => match w with
  | .cl (.ins c' _) => c' = c ∧ Q (.cl (.bl true))
  | .cl (.lst _) => Q (.cl (.bl false))
  | .cl (.int _) => Q (.cl (.bl false))
  | _ => False
structure IsOk (K : PySem.W.Frag) (C : Addr) : Prop where
  ins : C8.InsC K C
  kl : PySem.W.kitOne K (.type "list") (.ref C) = some false
  ki : PySem.W.kitOne K (.type "int") (.ref C) = some false
theorem kit_me {K : PySem.W.Frag} {C : Addr} : PySem.W.kitOne K (.ref C) (.ref C) = some true := by
  unfold PySem.W.kitOne
  rw [if_pos (by simp)]
theorem kit_ty2 {K : PySem.W.Frag} {C : Addr} {t : String} (h1 : PySem.W.isClsIn K C = true) (h2 : PySem.W.typeIn K (.ref C) = some (.type "type")) (h3 : PySem.W.subIn K (.type t) (.ref C) = some false) : PySem.W.kitOne K (.type t) (.ref C) = some false := by
  unfold PySem.W.kitOne
  rw [if_neg (by simp)]
  unfold PySem.W.kitCls
  unfold PySem.W.isClsIn at h1
  simp only [h1, h2, h3, Bool.true_and, beq_self_eq_true, if_true]
theorem is_mk {K : PySem.W.Frag} {C : Addr} (cl : Cls K C) (ha : PySem.W.findIn K (.ref C) "__class__" = some (some (.builtin "object.__class__"))) (hn : PySem.W.specialIn K (.builtin "object.__class__") "__get__" = some (some (.builtin "getset_descriptor.__get__")))
    (ht : PySem.W.takesIn K (.builtin "object.__class__") = some true) (hm : PySem.W.mroIn K C (.type "object") = some true) (h1 : PySem.W.isClsIn K C = true) (h2 : PySem.W.typeIn K (.ref C) = some (.type "type")) (h3 : PySem.W.subIn K (.type "list") (.ref C) = some false) (h4 : PySem.W.subIn K (.type "int") (.ref C) = some false) : IsOk K C :=
  ⟨⟨cl, ha, hn, ht, hm, kit_me⟩, kit_ty2 h1 h2 h3, kit_ty2 h1 h2 h4⟩
section
variable {T : Tb} {X : Cx} {e : Expr} {x : AE} {c : Nat} {s : Str} {p p2 pos : Pos}
theorem e_isO (hTK : T.K = X.K) (I : IsOk X.K (T.cl c)) (hm : X.mg "isinstance" = none) (hg : Gl X "isinstance") (hg2 : Gl X s) (hm2 : X.mg s = some (.ref (T.cl c))) (ha : PE X e (rdE T x)) (hd : (s == ("__debug__" : Str)) = false := by decide)
    (hs1 : starEach [e, .Name s p2] X.env = (false, eval e X.env) :: starEach [.Name s p2] X.env := by rfl) (hs2 : starEach [.Name s p2] X.env = (false, eval (.Name s p2) X.env) :: starEach [] X.env := by rfl) (hpl : (backTo pos (starEach [.Name s p2] X.env)).any (·.1) = false := by rfl) :
    PE X (.Call (.Name "isinstance" p) [e, .Name s p2] [] pos) (rdE T (aIsO c x)) := by
  refine (pe_callB call_isi hg hm (by decide +kernel) (pa_cons ha (pa_cons (pe_glob (v := .ref (T.cl c)) hg2 hm2 rfl hd) pa_nil hs2) hs1) (by decide) (by decide) hs1 hpl).mono fun σ H Q h => ?_
  obtain ⟨G, F, δ, P, R, h, k⟩ := h
  refine ⟨G, F, δ, _, R, h, fun w hw v F1 H1 g r => ?_⟩
  split at hw
  · rename_i c' ds
    obtain ⟨rfl, q⟩ := hw
    obtain ⟨a, dx, vs, rfl, hs, hl, rr⟩ := rep_ins r
    exact ⟨_, _, _, _, true, rfl, .own _, .base (.ins (g.ex _ _ hs) I.ins.cl I.ins.ha I.ins.hn I.ins.htk I.ins.hm), I.ins.me, k _ q _ _ _ g (.bl true)⟩
  · rename_i ds
    obtain ⟨a, vs, rfl, hs, rr⟩ := rep_lst r
    exact ⟨_, _, _, _, false, rfl, .own _, .base (.lst (g.ex _ _ hs)), I.kl, k _ hw _ _ _ g (.bl false)⟩
  · rename_i i
    cases rep_int r
    exact ⟨_, _, _, _, false, rfl, .own _, .base (.int i), I.ki, k _ hw _ _ _ g (.bl false)⟩
  · exact hw.elim
end
/-! ### equal data are equal -/
/-- instances of class c within k lists and tuples -/
def lvD (g : List D → Prop) (c : Nat) : Nat → D → Prop
  | 0, d => (match d with
    | .non => True
    | .bl _ => True
    | .int _ => True
    | .str _ => True
    | .ins c' ds => c' = c ∧ g ds
    | _ => False)
  | k + 1, d => lvD g c k d ∨ ∃ ds, (d = .lst ds ∨ d = .tup ds) ∧ ∀ e ∈ ds, lvD g c k e
section
variable {T : Tb} {X : Cx} {c : Nat} {g : List D → Prop}
def RSame (T : Tb) (g : List D → Prop) (c : Nat) (a b : Addr) (H : Hp) : Prop := ∃ ds F, g ds ∧ Same F H ∧ Rep T F (.ref a) (.ins c ds) ∧ Rep T F (.ref b) (.ins c ds)
theorem rsame_mon {a b : Addr} {H H' : Hp} (e : Ext H H') (h : RSame T g c a b H) : RSame T g c a b H' := by
  obtain ⟨ds, F, hg, s, h1, h2⟩ := h
  exact ⟨ds, F, hg, fun a o q => e _ _ (s _ _ q), h1, h2⟩
def DBase (T : Tb) (g : List D → Prop) (c : Nat) : Eqv := fun x y H => DFlat x y H ∨ DIns (T.cl c) (RSame T g c) x y H
def DLev (T : Tb) (g : List D → Prop) (c : Nat) : Nat → Eqv
  | 0 => DBase T g c
  | k + 1 => fun x y H => DLev T g c k x y H ∨ (DList (DLev T g c k) x y H ∨ DTup T.K (DLev T g c k) x y H)
theorem mon_lev : ∀ k, Mon (DLev T g c k)
  | 0 => Mon.or mon_flat (mon_ins fun _ _ _ _ e h => rsame_mon e h)
  | k + 1 => Mon.or (mon_lev k) (Mon.or (mon_list (mon_lev k)) (mon_tup (mon_lev k)))
theorem eqG_lev (hTK : T.K = X.K) {n : Nat} (h : EqG X n (DIns (T.cl c) (RSame T g c))) : ∀ k, EqG X (n + k) (DLev T g c k)
  | 0 => EqG.or (eqG_flat.mono (Nat.zero_le _)) h
  | k + 1 => EqG.or ((eqG_lev hTK h k).mono (Nat.le_succ _)) (EqG.or (eqG_list (mon_lev k) (eqG_lev hTK h k)) (hTK ▸ eqG_tup (mon_lev k) (eqG_lev hTK h k)))
theorem lev_of {F H : Hp} (e : Same F H) : ∀ {k : Nat} {d : D} {x y : V}, lvD g c k d → Rep T F x d → Rep T F y d → DLev T g c k x y H
  | 0, d, x, y, h, rx, ry => by
    cases d with
    | non => cases rep_non rx; cases rep_non ry; exact .inl ⟨rfl, rfl, rfl⟩
    | bl b => cases rep_bl rx; cases rep_bl ry; exact .inl ⟨rfl, rfl, by simp [eqV]⟩
    | int b => cases rep_int rx; cases rep_int ry; exact .inl ⟨rfl, rfl, by simp [eqV]⟩
    | str b => cases rep_str rx; cases rep_str ry; exact .inl ⟨rfl, rfl, by simp [eqV]⟩
    | ins c' ds =>
      obtain ⟨h, hg⟩ : c' = c ∧ g ds := h
      subst h
      obtain ⟨a, dx, vs, rfl, h1, _, _⟩ := rep_ins rx
      obtain ⟨b, dy, ws, rfl, h2, _, _⟩ := rep_ins ry
      exact .inr ⟨a, b, dx, dy, _, _, rfl, rfl, e _ _ h1, e _ _ h2, ds, F, hg, e, rx, ry⟩
    | tup ds => exact h.elim
    | lst ds => exact h.elim
    | dct t ks ds => exact h.elim
    | scr ns => exact h.elim
    | nd ks => exact h.elim
  | k + 1, d, x, y, h, rx, ry => by
    rcases h with h | ⟨ds, hd, h⟩
    · exact .inl (lev_of e h rx ry)
    · have prs : ∀ {vs ws : List V} {ds : List D}, (∀ d ∈ ds, lvD g c k d) → Reps T F vs ds → Reps T F ws ds → Prs (DLev T g c k) vs ws H := by
        intro vs ws ds
        induction ds generalizing vs ws with
        | nil => intro _ r1 r2; cases r1; cases r2; exact Prs.nil
        | cons d ds ih =>
          intro hd r1 r2
          cases r1 with
          | cons p1 t1 =>
            cases r2 with
            | cons p2 t2 => exact Prs.cons (lev_of e (hd d List.mem_cons_self) p1 p2) (ih (fun d q => hd d (List.mem_cons_of_mem _ q)) t1 t2)
      rcases hd with rfl | rfl
      · obtain ⟨a, vs, rfl, h1, r1⟩ := rep_lst rx
        obtain ⟨b, ws, rfl, h2, r2⟩ := rep_lst ry
        exact .inr (.inl ⟨a, b, vs, ws, rfl, rfl, e _ _ h1, e _ _ h2, prs h r1 r2⟩)
      · obtain ⟨a, vs, rfl, h1, r1⟩ := rep_tup rx
        obtain ⟨b, ws, rfl, h2, r2⟩ := rep_tup ry
        exact .inr (.inr ⟨a, b, vs, ws, rfl, rfl, SqT.of (e _ _ h1), SqT.of (e _ _ h2), prs h r1 r2⟩)
def rNeG (D : Eqv) : R2 := fun x y H Q => DList D x y H ∧ ∀ H', Ext H H' → Q (.bl false) H'
theorem op_neG {n : Nat} {D : Eqv} (hD : Mon D) (h : EqG X n D) (hr : Room (n + 1) X.A) : OpR X (compareOp .NotEq) (rNeG D) := by
  intro pins s σ H x y v u Q I rx ry hq
  obtain ⟨⟨a, b, xs, ys, rfl, rfl, ha, hb, p⟩, q⟩ := hq
  cases rx
  cases ry
  show wpAny (model X.prog X.w) X.A (richCompare .NotEq (.ref a) (.ref b)) (EP X pins σ Q) X.xe s
  refine GQ.rc_nlistG (N := xs.length) hr.units0 (fun _ s' => LoopI X pins σ H s') (fun i s' q => ?_) (fun s' q2 => ?_) ⟨H, I, Ext.rfl'⟩
  · obtain ⟨H1, I1, e1⟩ := id q
    obtain ⟨z, its, k, r, e⟩ := I1.hok a _ (e1 _ _ ha)
    obtain ⟨z2, its2, k2, r2, e2⟩ := I1.hok b _ (e1 _ _ hb)
    refine ⟨its.toArray, its2.toArray, k, k2, e, e2, by rw [List.size_toArray, ← r.length], by rw [List.size_toArray, ← r2.length, ← p.1], fun h1 h2 => ?_⟩
    exact turnG hD h ⟨hr, rfl⟩ p r r2 i h1 h2 s' q
  · obtain ⟨H1, I1, e1⟩ := q2
    exact ⟨.bl false, H1, I1, rfl, q H1 e1⟩
/-- xs != ys where the data are equal -/
def dNeS (g : List D → Prop) (c k : Nat) : W → W → (W → Prop) → Prop := fun x y Q => match itemsC x, itemsC y with
  | some ds, some es => ds = es ∧ (∀ d ∈ ds, lvD g c k d) ∧ Q (.cl (.bl false))
  | _, _ => False
theorem b_neS {k : Nat} : Bin2 T (rNeG (DLev T g c k)) (dNeS g c k) := by
  intro G F H F' H' x y u w P Q go rx ry h kk
  unfold dNeS at h
  split at h
  · rename_i ds es h1 h2
    obtain ⟨rfl, hl, q⟩ := h
    obtain ⟨a, vs, rfl, ha, ra⟩ := rx.items go.ex h1
    obtain ⟨b, ws, rfl, hb, rb⟩ := ry.items go.ex h2
    have prs : ∀ {vs ws : List V} {ds : List D}, (∀ d ∈ ds, lvD g c k d) → Reps T F' vs ds → Reps T F' ws ds → Prs (DLev T g c k) vs ws H' := by
      intro vs ws ds
      induction ds generalizing vs ws with
      | nil => intro _ r1 r2; cases r1; cases r2; exact Prs.nil
      | cons d ds ih =>
        intro hd r1 r2
        cases r1 with
        | cons p1 t1 =>
          cases r2 with
          | cons p2 t2 => exact Prs.cons (lev_of go.ex (hd d List.mem_cons_self) p1 p2) (ih (fun d q => hd d (List.mem_cons_of_mem _ q)) t1 t2)
    refine ⟨⟨a, b, vs, ws, rfl, rfl, ha, hb, prs hl ra rb⟩, fun H2 e => kk _ q _ F' H2 (go.trans ⟨e, Same.refl _, fun a o z => e _ _ (go.ex _ _ z), fun _ _ _ => rfl⟩) (.bl false)⟩
  · exact h.elim
/-- from the contract of __eq__ -/
theorem eqG_of {ct : Ct} {f : Addr} {fd : FuncData} {ps : List Str} {n : Nat} (Fn : FnOk X.prog X.w X.K X.mg X.base CX0 n f fd ps (spC T ct)) (hct : ∀ ds Q, g ds → Q (.cl (.bl true)) → ct [.cl (.ins c ds), .cl (.ins c ds)] Q)
    (hm : Meth X.K (T.cl c) "__eq__" f) (hb : Binds X.K fd ps []) : EqG X n (DIns (T.cl c) (RSame T g c)) :=
  eqG_ins (E := E0) (Fn.imp fun vs H Q E h => by
    obtain ⟨a, b, rfl, ⟨ds, F, hg, s, r1, r2⟩, k⟩ := h
    exact ⟨⟨H, H, [], .non⟩, F, [.cl (.ins c ds), .cl (.ins c ds)], fun w => w = .cl (.bl true), s, .cons r1 (.cons r2 .nil), hct ds _ hg rfl, fun w hw v F' H' g r => by
      subst hw
      cases r
      exact k H' g.h⟩) hm.at_ hm.fn hb pass0
theorem op_neS (hTK : T.K = X.K) {ct : Ct} {f : Addr} {fd : FuncData} {ps : List Str} {n k m : Nat} (Fn : FnOk X.prog X.w X.K X.mg X.base CX0 n f fd ps (spC T ct)) (hct : ∀ ds Q, g ds → Q (.cl (.bl true)) → ct [.cl (.ins c ds), .cl (.ins c ds)] Q)
    (hm : Meth X.K (T.cl c) "__eq__" f) (hb : Binds X.K fd ps []) (hr : Room m X.A) (hmn : n + k + 1 ≤ m) : OpR X (compareOp .NotEq) (rNeG (DLev T g c k)) :=
  op_neG (mon_lev k) (eqG_lev hTK (eqG_of Fn hct hm hb) k) (hr.mono hmn)
end
end Vl
/-! Dicts: keys are ints and texts, or tuples of them. Places: objects within an own tree that are changed. -/
namespace Vl
open PySem PySem.Spec PyProof.Rows L2

/-! ### keys and values -/
def posK : List (List Key) → List Key → Option Nat
  | [], _ => none
  | a :: ks, k => if a = k then some 0 else (posK ks k).map (· + 1)
def getK {α : Type} : List (List Key) → List α → List Key → Option α
  | a :: ks, x :: xs, k => if a = k then some x else getK ks xs k
  | _, _, _ => none
instance memK (k : List Key) (ks : List (List Key)) : Decidable (k ∈ ks) := decidable_of_iff ((ks.any fun a => decide (a = k)) = true) (by
  rw [List.any_eq_true]
  constructor
  · rintro ⟨a, ha, h⟩; rw [← of_decide_eq_true h]; exact ha
  · intro h; exact ⟨k, h, decide_eq_true rfl⟩)
def putKs (ks : List (List Key)) (k : List Key) : List (List Key) := if k ∈ ks then ks else ks ++ [k]
def putVs {α : Type} : List (List Key) → List α → List Key → α → List α
  | a :: ks, x :: xs, k, v => if a = k then v :: xs else x :: putVs ks xs k v
  | _, xs, _, v => xs ++ [v]
def delKs (ks : List (List Key)) (k : List Key) : List (List Key) := ks.filter fun a => decide (a ≠ k)
def delVs {α : Type} : List (List Key) → List α → List Key → List α
  | a :: ks, x :: xs, k => if a = k then delVs ks xs k else x :: delVs ks xs k
  | _, _, _ => []
section
variable {α β : Type}
theorem getK_none : ∀ {ks : List (List Key)} {xs : List α} {k : List Key}, ks.length = xs.length → (getK ks xs k = none ↔ k ∉ ks)
  | [], [], k, _ => by simp [getK]
  | [], _ :: _, k, h => by simp at h
  | _ :: _, [], k, h => by simp at h
  | a :: ks, x :: xs, k, h => by
    unfold getK
    by_cases e : a = k
    · simp [e]
    · rw [if_neg e, getK_none (by simpa using h)]
      constructor
      · intro h1 h2
        rcases List.mem_cons.mp h2 with z | z
        · exact e z.symm
        · exact h1 z
      · exact fun h1 h2 => h1 (List.mem_cons_of_mem _ h2)
theorem getK_map (f : α → β) : ∀ (ks : List (List Key)) (xs : List α) (k : List Key), getK ks (xs.map f) k = (getK ks xs k).map f
  | [], _, _ => rfl
  | _ :: _, [], _ => rfl
  | a :: ks, x :: xs, k => by
    show (if a = k then some (f x) else getK ks (xs.map f) k) = Option.map f (if a = k then some x else getK ks xs k)
    by_cases e : a = k
    · rw [if_pos e, if_pos e]; rfl
    · rw [if_neg e, if_neg e]; exact getK_map f ks xs k
theorem putVs_map (f : α → β) : ∀ (ks : List (List Key)) (xs : List α) (k : List Key) (v : α), putVs ks (xs.map f) k (f v) = (putVs ks xs k v).map f
  | [], xs, _, v => by simp [putVs]
  | _ :: _, [], _, v => by simp [putVs]
  | a :: ks, x :: xs, k, v => by
    show (if a = k then f v :: xs.map f else f x :: putVs ks (xs.map f) k (f v)) = List.map f (if a = k then v :: xs else x :: putVs ks xs k v)
    by_cases e : a = k
    · rw [if_pos e, if_pos e]; rfl
    · rw [if_neg e, if_neg e, putVs_map f ks xs k v]; rfl
theorem delVs_map (f : α → β) : ∀ (ks : List (List Key)) (xs : List α) (k : List Key), delVs ks (xs.map f) k = (delVs ks xs k).map f
  | [], _, _ => by simp [delVs]
  | _ :: _, [], _ => by simp [delVs]
  | a :: ks, x :: xs, k => by
    show (if a = k then delVs ks (xs.map f) k else f x :: delVs ks (xs.map f) k) = List.map f (if a = k then delVs ks xs k else x :: delVs ks xs k)
    by_cases e : a = k
    · rw [if_pos e, if_pos e]; exact delVs_map f ks xs k
    · rw [if_neg e, if_neg e, delVs_map f ks xs k]; rfl
theorem putKs_cons {a k : List Key} {ks : List (List Key)} (h : a ≠ k) : putKs (a :: ks) k = a :: putKs ks k := by
  unfold putKs
  by_cases e : k ∈ ks
  · rw [if_pos (List.mem_cons_of_mem _ e), if_pos e]
  · rw [if_neg (fun z => by rcases List.mem_cons.mp z with z | z; exact h z.symm; exact e z), if_neg e]; rfl
theorem put_len : ∀ {ks : List (List Key)} {xs : List α} {k : List Key} {v : α}, ks.length = xs.length → (putKs ks k).length = (putVs ks xs k v).length
  | [], [], k, v, _ => by simp [putKs, putVs]
  | [], _ :: _, k, v, h => by simp at h
  | _ :: _, [], k, v, h => by simp at h
  | a :: ks, x :: xs, k, v, h => by
    by_cases e : a = k
    · subst e
      unfold putKs putVs
      rw [if_pos List.mem_cons_self, if_pos rfl]
      simpa using h
    · rw [putKs_cons e]
      unfold putVs
      rw [if_neg e, List.length_cons, List.length_cons, put_len (ks := ks) (by simpa using h)]
theorem putKs_len (ks : List (List Key)) (k : List Key) : (putKs ks k).length ≤ ks.length + 1 := by
  unfold putKs
  split <;> simp
theorem putKs_mem {ks : List (List Key)} {k j : List Key} : j ∈ putKs ks k ↔ j ∈ ks ∨ j = k := by
  unfold putKs
  split
  · rename_i h
    constructor
    · exact .inl
    · rintro (q | rfl)
      · exact q
      · exact h
  · simp
theorem putKs_nodup {ks : List (List Key)} {k : List Key} (h : ks.Nodup) : (putKs ks k).Nodup := by
  unfold putKs
  split
  · exact h
  · rename_i q
    rw [List.nodup_append]
    exact ⟨h, List.nodup_cons.mpr ⟨List.not_mem_nil, List.nodup_nil⟩, fun a ha b hb e => q (by rw [List.mem_singleton.mp hb] at e; exact e ▸ ha)⟩
/-- what is found behind a store -/
theorem getK_put : ∀ {ks : List (List Key)} {xs : List α} {k j : List Key} {v : α}, ks.length = xs.length → getK (putKs ks k) (putVs ks xs k v) j = if j = k then some v else getK ks xs j
  | [], [], k, j, v, _ => by
    have e1 : putKs [] k = [k] := by unfold putKs; rw [if_neg List.not_mem_nil]; rfl
    rw [e1]
    show (if k = j then some v else none) = if j = k then some v else none
    by_cases e : j = k
    · rw [if_pos e, if_pos e.symm]
    · rw [if_neg e, if_neg fun z => e z.symm]
  | [], _ :: _, k, j, v, h => by simp at h
  | _ :: _, [], k, j, v, h => by simp at h
  | a :: ks, x :: xs, k, j, v, h => by
    by_cases e : a = k
    · subst e
      unfold putKs putVs
      rw [if_pos List.mem_cons_self, if_pos rfl]
      unfold getK
      by_cases e2 : j = a
      · rw [if_pos e2, if_pos e2.symm]
      · rw [if_neg e2, if_neg (fun z => e2 z.symm), if_neg (fun z => e2 z.symm)]
    · rw [putKs_cons e]
      unfold putVs
      rw [if_neg e]
      unfold getK
      by_cases e2 : a = j
      · subst e2
        rw [if_pos rfl, if_neg e, if_pos rfl]
      · rw [if_neg e2, getK_put (ks := ks) (by simpa using h), if_neg e2]
theorem del_len : ∀ {ks : List (List Key)} {xs : List α} {k : List Key}, ks.length = xs.length → (delKs ks k).length = (delVs ks xs k).length
  | [], [], k, _ => by simp [delKs, delVs]
  | [], _ :: _, k, h => by simp at h
  | _ :: _, [], k, h => by simp at h
  | a :: ks, x :: xs, k, h => by
    have ih := del_len (ks := ks) (xs := xs) (k := k) (by simpa using h)
    unfold delKs at ih ⊢
    unfold delVs
    by_cases e : a = k
    · rw [if_pos e, List.filter_cons, if_neg (by simp [e])]; exact ih
    · rw [if_neg e, List.filter_cons, if_pos (by simp [e]), List.length_cons, List.length_cons, ih]
theorem getK_del : ∀ {ks : List (List Key)} {xs : List α} {k j : List Key}, ks.length = xs.length → getK (delKs ks k) (delVs ks xs k) j = if j = k then none else getK ks xs j
  | [], [], k, j, _ => by simp [delKs, delVs, getK]
  | [], _ :: _, k, j, h => by simp at h
  | _ :: _, [], k, j, h => by simp at h
  | a :: ks, x :: xs, k, j, h => by
    have ih := getK_del (ks := ks) (xs := xs) (k := k) (j := j) (by simpa using h)
    unfold delKs at ih ⊢
    unfold delVs
    by_cases e : a = k
    · rw [if_pos e, List.filter_cons, if_neg (by simp [e]), ih]
      by_cases e2 : j = k
      · rw [if_pos e2, if_pos e2]
      · rw [if_neg e2, if_neg e2]
        show getK ks xs j = if a = j then some x else getK ks xs j
        rw [if_neg fun z => e2 (z.symm.trans e)]
    · rw [if_neg e, List.filter_cons, if_pos (by simp [e])]
      unfold getK
      by_cases e2 : a = j
      · rw [if_pos e2, if_pos e2, if_neg fun z => e (e2.trans z)]
      · rw [if_neg e2, if_neg e2, ih]
end
section
variable {κ : Type} [DecidableEq κ] (e : κ → List Key) (he : ∀ a b, e a = e b → a = b)
include he
theorem val_get : ∀ (kvs : List (κ × V)) (k : κ), valV kvs k = getK (kvs.map fun p => e p.1) (kvs.map (·.2)) (e k)
  | [], _ => rfl
  | (a, v) :: kvs, k => by
    show _ = if e a = e k then some v else getK (kvs.map fun p => e p.1) (kvs.map (·.2)) (e k)
    by_cases q : a = k
    · rw [valV_pos (p := (a, v)) q, if_pos (by rw [q])]
    · rw [valV_neg (p := (a, v)) q, if_neg (fun z => q (he _ _ z)), val_get kvs k]
theorem any_mem (kvs : List (κ × V)) (k : κ) : (kvs.any fun kv => decide (kv.1 = k)) = true ↔ e k ∈ kvs.map fun p => e p.1 := by
  rw [List.any_eq_true]
  constructor
  · rintro ⟨p, hp, q⟩
    exact List.mem_map.mpr ⟨p, hp, by rw [of_decide_eq_true q]⟩
  · intro h
    obtain ⟨p, hp, q⟩ := List.mem_map.mp h
    exact ⟨p, hp, decide_eq_true (he _ _ q)⟩
theorem put_keys (kvs : List (κ × V)) (k : κ) (v : V) : (putK kvs k v).map (fun p => e p.1) = putKs (kvs.map fun p => e p.1) (e k) := by
  unfold putK putKs
  by_cases h : (kvs.any fun kv => decide (kv.1 = k)) = true
  · rw [if_pos h, if_pos ((any_mem e he kvs k).mp h), List.map_map]
    apply List.map_congr_left
    rintro ⟨a, u⟩ _
    show e (if a = k then (a, v) else (a, u)).1 = e a
    split <;> rfl
  · rw [if_neg h, if_neg fun z => h ((any_mem e he kvs k).mpr z), List.map_append]
    rfl
theorem put_valsV : ∀ (kvs : List (κ × V)) (k : κ) (v : V), (kvs.map fun p => e p.1).Nodup → (putK kvs k v).map (·.2) = putVs (kvs.map fun p => e p.1) (kvs.map (·.2)) (e k) v
  | [], k, v, _ => by simp [putK, putVs]
  | (a, u) :: kvs, k, v, nd => by
    rw [List.map_cons, List.nodup_cons] at nd
    by_cases q : a = k
    · subst q
      have hn : ∀ p ∈ kvs, ¬ p.1 = a := fun p hp z => nd.1 (List.mem_map.mpr ⟨p, hp, by rw [z]⟩)
      have e1 : putK ((a, u) :: kvs) a v = (a, v) :: kvs := by
        unfold putK
        rw [if_pos (by simp), List.map_cons]
        simp only [if_true]
        congr 1
        conv => rhs; rw [← List.map_id kvs]
        apply List.map_congr_left
        intro p hp
        rw [if_neg (hn p hp)]; rfl
      rw [e1]
      show v :: kvs.map (·.2) = if e a = e a then v :: kvs.map (·.2) else _
      rw [if_pos rfl]
    · have e1 : putK ((a, u) :: kvs) k v = (a, u) :: putK kvs k v := by
        unfold putK
        rw [List.any_cons, decide_eq_false (show ¬ a = k from q), Bool.false_or]
        by_cases h : (kvs.any fun kv => decide (kv.1 = k)) = true
        · rw [if_pos h, if_pos h, List.map_cons, if_neg q]
        · rw [if_neg h, if_neg h]; rfl
      rw [e1, List.map_cons, put_valsV kvs k v nd.2]
      show u :: _ = if e a = e k then _ else u :: _
      rw [if_neg fun z => q (he _ _ z)]
theorem drop_keys (kvs : List (κ × V)) (k : κ) : (dropK kvs k).map (fun p => e p.1) = delKs (kvs.map fun p => e p.1) (e k) := by
  unfold dropK delKs
  rw [List.filter_map]
  congr 1
  apply List.filter_congr
  rintro ⟨a, u⟩ _
  show decide (a ≠ k) = decide (e a ≠ e k)
  by_cases q : a = k
  · rw [q]; simp
  · rw [decide_eq_true q, decide_eq_true (show e a ≠ e k from fun z => q (he _ _ z))]
theorem drop_valsV : ∀ (kvs : List (κ × V)) (k : κ), (dropK kvs k).map (·.2) = delVs (kvs.map fun p => e p.1) (kvs.map (·.2)) (e k)
  | [], k => rfl
  | (a, u) :: kvs, k => by
    show _ = if e a = e k then delVs (kvs.map fun p => e p.1) (kvs.map (·.2)) (e k) else u :: delVs (kvs.map fun p => e p.1) (kvs.map (·.2)) (e k)
    have ih := drop_valsV kvs k
    unfold dropK at ih ⊢
    by_cases q : a = k
    · rw [if_pos (by rw [q]), List.filter_cons, if_neg (by simp [q]), ih]
    · rw [if_neg fun z => q (he _ _ z), List.filter_cons, if_pos (by simp [q]), List.map_cons, ih]
end
theorem one_inj : ∀ a b : Key, [a] = [b] → a = b := fun a b h => by cases h; rfl
section
variable {T : Tb} {F H : Hp} {t : Bool} {o : HO} {ks : List (List Key)} {vs : List V} {p : Addr} {kv v : V} {kd : D} {k : List Key}
theorem keyF_rep {kv : V} {kd : D} {k : Key} (h : keyF kd = some k) (r : Rep T F kv kd) : kv = kV k := by
  unfold keyF at h
  split at h
  · cases h; exact rep_int r
  · cases h; exact rep_str r
  · cases h
theorem keysF_rep : ∀ {ds : List D} {vs : List V} {k : List Key}, keysF ds = some k → Reps T F vs ds → vs = k.map kV
  | [], _, k, h, .nil => by cases h; rfl
  | d :: ds, _, k, h, .cons r t => by
    unfold keysF at h
    split at h
    · rename_i a b e1 e2
      cases h
      rw [keyF_rep e1 r, keysF_rep e2 t]; rfl
    · cases h
theorem dct_len (d : DctO t o ks vs) : ks.length = vs.length := by
  obtain ⟨_, d⟩ := d
  cases t with
  | false => obtain ⟨kvs, _, rfl, rfl⟩ := d; simp
  | true => obtain ⟨kvs, _, rfl, rfl⟩ := d; simp
theorem dct_get (d : DctO t o ks vs) (h : H p = some o) (r : Rep T H kv kd) (hk : keyO t kd = some k) : DGet H p kv (getK ks vs k) := by
  obtain ⟨nd, d⟩ := d
  cases t with
  | false =>
    obtain ⟨kvs, rfl, rfl, rfl⟩ := d
    have hk : (keyF kd).map (fun k => [k]) = some k := hk
    cases e : keyF kd with
    | none => rw [e] at hk; cases hk
    | some x =>
      rw [e] at hk
      cases hk
      rw [keyF_rep e r, ← val_get (fun a => [a]) one_inj]
      exact DGet.k h
  | true =>
    obtain ⟨kvs, rfl, rfl, rfl⟩ := d
    unfold keyO at hk
    split at hk
    · obtain ⟨b, vs', rfl, hb, rr⟩ := rep_tup r
      have ev := keysF_rep hk rr
      subst ev
      have := DGet.t (k := k) h hb
      rw [val_get (fun a => a) (fun _ _ z => z)] at this
      exact this
    · cases hk
    · contradiction
theorem dct_put (d : DctO t o ks vs) (h : H p = some o) (r : Rep T H kv kd) (hk : keyO t kd = some k) (hl : ks.length < sizeLine) (v : V) : ∃ o', DPut H p kv v (upd H p o') ∧ DctO t o' (putKs ks k) (putVs ks vs k v) := by
  obtain ⟨nd, d⟩ := d
  cases t with
  | false =>
    obtain ⟨kvs, rfl, rfl, rfl⟩ := d
    have hk : (keyF kd).map (fun k => [k]) = some k := hk
    cases e : keyF kd with
    | none => rw [e] at hk; cases hk
    | some x =>
      rw [e] at hk
      cases hk
      rw [keyF_rep e r]
      exact ⟨_, DPut.k h (by simpa using hl), putKs_nodup nd, _, rfl, (put_keys (fun a => [a]) one_inj kvs x v).symm, (put_valsV (fun a => [a]) one_inj kvs x v nd).symm⟩
  | true =>
    obtain ⟨kvs, rfl, rfl, rfl⟩ := d
    unfold keyO at hk
    split at hk
    · obtain ⟨b, vs', rfl, hb, rr⟩ := rep_tup r
      have ev := keysF_rep hk rr
      subst ev
      exact ⟨_, DPut.t (k := k) h hb (by simpa using hl), putKs_nodup nd, _, rfl, (put_keys (fun a => a) (fun _ _ z => z) kvs k v).symm, (put_valsV (fun a => a) (fun _ _ z => z) kvs k v nd).symm⟩
    · cases hk
    · contradiction
end
end Vl
/-! Places: objects within an own tree, and what is done to them. -/
namespace Vl
open PySem PySem.Spec PyProof.Rows L2

/-- u is the root of the subtree k of the tree m at v; c k' is that tree with k' in its stead -/
structure Sub (T : Tb) (F H : Hp) (v : V) (m : M) (A : List Addr) (u : V) (k : M) (B : List Addr) (c : M → M) : Prop where
  ow : Own T F H u k B
  sub : ∀ a ∈ B, a ∈ A
  re : ∀ (N : Addr → Prop) (F' H' : Hp) (k' : M) (B' : List Addr), (∀ a, N a → a ∉ A) → Same F F' → (∀ a, a ∉ B → H a ≠ none → NT H' a → F' a = F a) → (∀ a, a ∉ B → H a ≠ none → H' a = H a) → Own T F' H' u k' B' → (∀ a ∈ B', a ∈ B ∨ N a) → ∃ A', Own T F' H' v (c k') A' ∧ ∀ a ∈ A', a ∈ A ∨ N a
section
variable {T : Tb} {F F' F2 H H' H2 : Hp} {v u u' : V} {m k k' : M} {A B B' : List Addr} {c c' : M → M} {vs : List V} {ms : List M}
theorem Sub.self (o : Own T F H v m A) : Sub T F H v m A v m A fun x => x :=
  ⟨o, fun _ q => q, fun N F' H' k' B' _ _ _ _ o' h => ⟨B', o', h⟩⟩
theorem Sub.trans (S : Sub T F H v m A u k B c) (S' : Sub T F H u k B u' k' B' c') : Sub T F H v m A u' k' B' fun x => c (c' x) :=
  ⟨S'.ow, fun a q => S.sub a (S'.sub a q), fun N F' H' k2 B2 hN sF nF fr o h => by
    obtain ⟨B3, o3, h3⟩ := S'.re N F' H' k2 B2 (fun a n q => hN a n (S.sub a q)) sF nF fr o h
    exact S.re N F' H' _ B3 hN sF (fun a n q t => nF a (fun z => n (S'.sub a z)) q t) (fun a n q => fr a (fun z => n (S'.sub a z)) q) o3 h3⟩
theorem Sub.go (S : Sub T F H v m A u k B c) (g : Go F H F2 H2) : Sub T F2 H2 v m A u k B c :=
  ⟨S.ow.go g, S.sub, fun N F' H' k2 B2 hN sF nF fr o h => S.re N F' H' k2 B2 hN (g.f.trans sF) (fun a z q n => (nF a z (Same.nn g.h q) n).trans (g.n a q ((n.at (fr a z (Same.nn g.h q)).symm).back g.h))) (fun a n q => (fr a n (Same.nn g.h q)).trans (Same.at g.h q)) o h⟩
theorem Owns.get : ∀ {vs : List V} {ms : List M} {A : List Addr} {j : Nat} {k : M}, Owns T F H vs ms A → ms[j]? = some k → ∃ u B, vs[j]? = some u ∧ Own T F H u k B ∧ (∀ a ∈ B, a ∈ A) ∧
    ∀ (N : Addr → Prop) (F' H' : Hp) (k' : M) (B' : List Addr), (∀ a, N a → a ∉ A) → Same F F' → (∀ a, a ∉ B → H a ≠ none → NT H' a → F' a = F a) → (∀ a, a ∉ B → H a ≠ none → H' a = H a) → Own T F' H' u k' B' → (∀ a ∈ B', a ∈ B ∨ N a) → ∃ A', Owns T F' H' vs (ms.set j k') A' ∧ ∀ a ∈ A', a ∈ A ∨ N a
  | _, _, _, _, _, .nil, h => by simp at h
  | _, _, _, 0, _, .cons (v := v) (m := m) (A := A) (B := B) o t d, h => by
    simp at h; subst h
    refine ⟨_, _, rfl, o, fun a q => List.mem_append_left _ q, fun N F' H' k' B' hN sF nF fr o' h' => ?_⟩
    have t' : Owns T F' H' _ _ B := t.keep sF (fun a q => fr a (fun z => d a z q) (t.mem a q).1) fun a q n => (nF a (fun z => d a z q) (t.mem a q).1 (n.at (fr a (fun z => d a z q) (t.mem a q).1))).trans ((t.mem a q).2 n)
    refine ⟨B' ++ B, .cons o' t' fun a q z => ?_, fun a q => ?_⟩
    · rcases h' a q with y | y
      · exact d a y z
      · exact hN a y (List.mem_append_right _ z)
    · rcases List.mem_append.mp q with q | q
      · rcases h' a q with y | y
        · exact .inl (List.mem_append_left _ y)
        · exact .inr y
      · exact .inl (List.mem_append_right _ q)
  | _, _, _, j + 1, _, .cons (v := v) (m := m) (A := A) (B := B) o t d, h => by
    obtain ⟨u, C, h1, h2, h3, h4⟩ := Owns.get (j := j) t (by simpa using h)
    refine ⟨u, C, by simpa using h1, h2, fun a q => List.mem_append_right _ (h3 a q), fun N F' H' k' B' hN sF nF fr o' h' => ?_⟩
    obtain ⟨B2, t2, hB2⟩ := h4 N F' H' k' B' (fun a n q => hN a n (List.mem_append_right _ q)) sF nF fr o' h'
    have o2 : Own T F' H' _ _ A := o.keep sF (fun a q => fr a (fun z => d a q (h3 a z)) (o.mem a q).1) fun a q n => (nF a (fun z => d a q (h3 a z)) (o.mem a q).1 (n.at (fr a (fun z => d a q (h3 a z)) (o.mem a q).1))).trans ((o.mem a q).2 n)
    refine ⟨A ++ B2, .cons o2 t2 fun a q z => ?_, fun a q => ?_⟩
    · rcases hB2 a z with y | y
      · exact d a q y
      · exact hN a y (List.mem_append_left _ q)
    · rcases List.mem_append.mp q with q | q
      · exact .inl (List.mem_append_left _ q)
      · rcases hB2 a q with y | y
        · exact .inl (List.mem_append_right _ y)
        · exact .inr y
theorem sub_ti {cn j : Nat} (o : Own T F H v (.ti cn ms) A) (h : ms[j]? = some k) : ∃ p dx vs u B, v = .ref p ∧ H p = some (.ins (T.cl cn) dx ((T.fs cn).zip vs)) ∧ (T.fs cn).length = vs.length ∧ vs[j]? = some u ∧ Sub T F H v (.ti cn ms) A u k B fun x => .ti cn (ms.set j x) := by
  obtain ⟨p, dx, vs, C, rfl, rfl, hp, hf, hl, hn, t⟩ := own_ti o
  obtain ⟨u, B, h1, h2, h3, h4⟩ := t.get h
  refine ⟨p, dx, vs, u, B, rfl, hp, hl, h1, h2, fun a q => List.mem_cons_of_mem _ (h3 a q), fun N F' H' k' B' hN sF nF fr o' h' => ?_⟩
  obtain ⟨C', t', hC'⟩ := h4 N F' H' k' B' (fun a n q => hN a n (List.mem_cons_of_mem _ q)) sF nF fr o' h'
  have pB : p ∉ B := fun q => hn (h3 p q)
  have hp0 : H p ≠ none := by rw [hp]; simp
  refine ⟨p :: C', .ti ((fr p pB hp0).trans hp) ((nF p pB hp0 (nt_of ((fr p pB hp0).trans hp))).trans hf) hl (fun q => ?_) t', fun a q => ?_⟩
  · rcases hC' p q with y | y
    · exact hn y
    · exact hN p y List.mem_cons_self
  · rcases List.mem_cons.mp q with q | q
    · rw [q]; exact .inl List.mem_cons_self
    · rcases hC' a q with y | y
      · exact .inl (List.mem_cons_of_mem _ y)
      · exact .inr y
theorem sub_tl {j : Nat} (o : Own T F H v (.tl ms) A) (h : ms[j]? = some k) : ∃ p vs u B, v = .ref p ∧ H p = some (.lst vs) ∧ vs.length = ms.length ∧ vs[j]? = some u ∧ Sub T F H v (.tl ms) A u k B fun x => .tl (ms.set j x) := by
  obtain ⟨p, vs, C, rfl, rfl, hp, hf, hn, t⟩ := own_tl o
  obtain ⟨u, B, h1, h2, h3, h4⟩ := t.get h
  refine ⟨p, vs, u, B, rfl, hp, t.length, h1, h2, fun a q => List.mem_cons_of_mem _ (h3 a q), fun N F' H' k' B' hN sF nF fr o' h' => ?_⟩
  obtain ⟨C', t', hC'⟩ := h4 N F' H' k' B' (fun a n q => hN a n (List.mem_cons_of_mem _ q)) sF nF fr o' h'
  have pB : p ∉ B := fun q => hn (h3 p q)
  have hp0 : H p ≠ none := by rw [hp]; simp
  refine ⟨p :: C', .tl ((fr p pB hp0).trans hp) ((nF p pB hp0 (nt_of ((fr p pB hp0).trans hp))).trans hf) (fun q => ?_) t', fun a q => ?_⟩
  · rcases hC' p q with y | y
    · exact hn y
    · exact hN p y List.mem_cons_self
  · rcases List.mem_cons.mp q with q | q
    · rw [q]; exact .inl List.mem_cons_self
    · rcases hC' a q with y | y
      · exact .inl (List.mem_cons_of_mem _ y)
      · exact .inr y
theorem sub_tp {j : Nat} (o : Own T F H v (.tp ms) A) (h : ms[j]? = some k) : ∃ p vs u B, v = .ref p ∧ H p = some (.tup vs) ∧ vs.length = ms.length ∧ vs[j]? = some u ∧ Sub T F H v (.tp ms) A u k B fun x => .tp (ms.set j x) := by
  obtain ⟨p, vs, C, rfl, rfl, hp, hn, t⟩ := own_tp o
  obtain ⟨u, B, h1, h2, h3, h4⟩ := t.get h
  refine ⟨p, vs, u, B, rfl, hp, t.length, h1, h2, fun a q => List.mem_cons_of_mem _ (h3 a q), fun N F' H' k' B' hN sF nF fr o' h' => ?_⟩
  obtain ⟨C', t', hC'⟩ := h4 N F' H' k' B' (fun a n q => hN a n (List.mem_cons_of_mem _ q)) sF nF fr o' h'
  have pB : p ∉ B := fun q => hn (h3 p q)
  have hp0 : H p ≠ none := by rw [hp]; simp
  refine ⟨p :: C', .tp ((fr p pB hp0).trans hp) (fun q => ?_) t', fun a q => ?_⟩
  · rcases hC' p q with y | y
    · exact hn y
    · exact hN p y List.mem_cons_self
  · rcases List.mem_cons.mp q with q | q
    · rw [q]; exact .inl List.mem_cons_self
    · rcases hC' a q with y | y
      · exact .inl (List.mem_cons_of_mem _ y)
      · exact .inr y
theorem getK_at {α : Type} : ∀ {ks : List (List Key)} {xs : List α} {k : List Key} {x : α}, getK ks xs k = some x → k ∈ ks ∧ ∃ j, xs[j]? = some x ∧ (∀ y, putVs ks xs k y = xs.set j y) ∧ ∀ (β : Type) (ys : List β), ys.length = xs.length → getK ks ys k = ys[j]?
  | [], _, _, _, h => by cases h
  | _ :: _, [], _, _, h => by cases h
  | a :: ks, z :: xs, k, x, h => by
    by_cases e : a = k
    · have h : (if a = k then some z else getK ks xs k) = some x := h
      rw [if_pos e] at h
      cases h
      refine ⟨by rw [e]; exact List.mem_cons_self, 0, rfl, fun y => ?_, fun β ys hl => ?_⟩
      · show (if a = k then y :: xs else _) = _
        rw [if_pos e]; rfl
      · cases ys with
        | nil => cases hl
        | cons y ys =>
          show (if a = k then some y else _) = _
          rw [if_pos e]; rfl
    · have h : (if a = k then some z else getK ks xs k) = some x := h
      rw [if_neg e] at h
      obtain ⟨h1, j, h2, h3, h4⟩ := getK_at h
      refine ⟨List.mem_cons_of_mem _ h1, j + 1, by simpa using h2, fun y => ?_, fun β ys hl => ?_⟩
      · show (if a = k then y :: xs else z :: putVs ks xs k y) = _
        rw [if_neg e, h3 y]; rfl
      · cases ys with
        | nil => cases hl
        | cons y ys =>
          show (if a = k then some y else getK ks ys k) = _
          rw [if_neg e, h4 β ys (by simpa using hl)]; rfl
theorem sub_td {t : Bool} {ks : List (List Key)} {key : List Key} (o : Own T F H v (.td t ks ms) A) (h : getK ks ms key = some k) : ∃ p ob vs u B, v = .ref p ∧ H p = some ob ∧ DctO t ob ks vs ∧ getK ks vs key = some u ∧ Sub T F H v (.td t ks ms) A u k B fun x => .td t ks (putVs ks ms key x) := by
  obtain ⟨p, ob, vs, C, rfl, rfl, hp, hf, hd, hn, tt⟩ := own_td o
  obtain ⟨hk, j, h0, hset, hget⟩ := getK_at h
  obtain ⟨u, B, h1, h2, h3, h4⟩ := tt.get h0
  refine ⟨p, ob, vs, u, B, rfl, hp, hd, by rw [hget _ vs tt.length]; exact h1, h2, fun a q => List.mem_cons_of_mem _ (h3 a q), fun N F' H' k' B' hN sF nF fr o' h' => ?_⟩
  obtain ⟨C', t', hC'⟩ := h4 N F' H' k' B' (fun a n q => hN a n (List.mem_cons_of_mem _ q)) sF nF fr o' h'
  have pB : p ∉ B := fun q => hn (h3 p q)
  have hp0 : H p ≠ none := by rw [hp]; simp
  refine ⟨p :: C', ?_, fun a q => ?_⟩
  · show Own T F' H' (.ref p) (.td t ks (putVs ks ms key k')) _
    rw [hset]
    refine .td ((fr p pB hp0).trans hp) ((nF p pB hp0 (nt_of ((fr p pB hp0).trans hp) (dctO_nt hd))).trans hf) hd (fun q => ?_) t'
    rcases hC' p q with y | y
    · exact hn y
    · exact hN p y List.mem_cons_self
  · rcases List.mem_cons.mp q with q | q
    · rw [q]; exact .inl List.mem_cons_self
    · rcases hC' a q with y | y
      · exact .inl (List.mem_cons_of_mem _ y)
      · exact .inr y
end
/-! ### expressions that name a place -/
abbrev AP := List AV → (Nat → (M → M) → M → Prop) → Prop
def apV (i : Nat) : AP := fun δ P => match gt δ i with
  | .ow _ m => P i (fun x => x) m
  | _ => False
def apFld (cn j : Nat) (a : AP) : AP := fun δ P => a δ fun i c k => match k with
  | .ti c' ms => c' = cn ∧ match ms[j]? with
    | some x => P i (fun y => c (.ti c' (ms.set j y))) x
    | none => False
  | _ => False
def apIx (a : AP) (e : AE) : AP := fun δ P => a δ fun i c k => e δ fun w => match k, w with
  | .tl ms, .cl (.int z) => match ixN ms.length z with
    | some j => match ms[j]? with
      | some x => P i (fun y => c (.tl (ms.set j y))) x
      | none => False
    | none => False
  | _, _ => False
def apKey (a : AP) (e : AE) : AP := fun δ P => a δ fun i c k => e δ fun w => match k, clW w with
  | .td t ks ms, some kd => match keyO t kd with
    | some key => match getK ks ms key with
      | some x => P i (fun y => c (.td t ks (putVs ks ms key y))) x
      | none => False
    | none => False
  | _, _ => False
def rdP (T : Tb) (a : AP) : TE := fun σ H Q => ∃ G F δ P, RepS T G F H σ δ ∧ a δ P ∧ ∀ i c k, P i c k → ∀ F' H', Go F H F' H' → ∀ l m v A u B, gt δ i = .ow l m → gs σ i = some v → Own T F' H' v m A → Sub T F' H' v m A u k B c → Q u H'
/-- the slot's tree is another one -/
def setP (δ : List AV) (i : Nat) (m : M) : List AV := match gt δ i with
  | .ow l _ => δ.set i (.ow l m)
  | _ => δ
section
variable {T : Tb} {X : Cx} {G : Gx} {F F1 F2 H H1 H2 : Hp} {σ : L2.St} {δ : List AV} {e o : Expr} {x : AE} {pl : AP} {pos : Pos} {cn j i : Nat} {f s : Str} {l : Bool} {m k k' : M} {v u : V} {A B B' : List Addr} {c : M → M}
theorem e_pV (i : Nat) (hN : X.N[i]? = some s := by rfl) (hv : Vis X.env.scope s := by first | exact Or.inl rfl | exact Or.inr (Or.inl rfl) | exact Or.inr (Or.inr rfl)) (hd : (s == ("__debug__" : Str)) = false := by decide)
    (hcd : (s == ("__classdict__" : Str)) = false := by decide) : PE X (.Name s pos) (rdP T (apV i)) := by
  refine (pe_var hN hv hd hcd).mono fun σ H Q h => ?_
  obtain ⟨G, F, δ, P, R, h, k⟩ := h
  unfold apV at h
  split at h
  · rename_i l m hg
    obtain ⟨v, A, e, o, _⟩ := R.own hg
    exact ⟨v, gs_some e, k _ _ _ h F H (Go.refl R.ex) l m v A v A hg e o (Sub.self o)⟩
  · exact h.elim
theorem e_pFld (hTK : T.K = X.K) (hC : Cls X.K (T.cl cn)) (hn : NoAttr X.K (T.cl cn) f) (hd : (T.fs cn).Nodup) (hj : (T.fs cn)[j]? = some f) (he : PE X e (rdP T pl)) (hb : attributeBase e f X.env (eval e X.env) = eval e X.env := by rfl) :
    PE X (.Attribute e f pos) (rdP T (apFld cn j pl)) := (pe_fld he hb).mono fun σ H Q h => by
  obtain ⟨G, F, δ, P, R, h, k⟩ := h
  refine ⟨G, F, δ, _, R, h, fun i c kk hw F1 H1 g l m v A u B e1 e2 o S => ?_⟩
  split at hw
  · rename_i c' ms
    obtain ⟨rfl, hw⟩ := hw
    split at hw
    · rename_i y hy
      obtain ⟨p, dx, vs, u', B', rfl, hp, hl, hu, S'⟩ := sub_ti S.ow hy
      exact ⟨p, _, dx, _, u', rfl, hp, hC, hn, lookup_zip hd hj hu, k _ _ _ hw F1 H1 g l m v A u' B' e1 e2 o (S.trans S')⟩
    · exact hw.elim
  · exact hw.elim
theorem e_pIx (hTK : T.K = X.K) (ho : PE X o (rdP T pl)) (hi : PE X e (rdE T x)) (hs : PlainIx e) : PE X (.Subscript o e pos) (rdP T (apIx pl x)) := (pe_ix ix_seq ho hi hs).mono fun σ H Q h => by
  obtain ⟨G, F, δ, P, R, h, k⟩ := h
  refine ⟨G, F, δ, _, R, h, fun i c kk hw F1 H1 g l m v A u B e1 e2 o S => ?_⟩
  refine ⟨G, F1, δ, _, R.go g, hw, fun w hz v2 F2 H2 g2 r2 => ?_⟩
  clear hw
  have S2 := S.go g2
  split at hz
  · rename_i ms z
    split at hz
    · rename_i j hj
      split at hz
      · rename_i y hy
        obtain ⟨p, vs, u', B', rfl, hp, hl, hu, S'⟩ := sub_tl S2.ow hy
        refine .inl ⟨p, vs, z, u', rfl, rep_int r2, hTK ▸ SqL.of hp, ?_, k _ _ _ hz F2 H2 (g.trans g2) l m v A u' B' e1 e2 (o.go g2) (S2.trans S')⟩
        unfold atI
        rw [hl, hj]; exact hu
      · exact hz.elim
    · exact hz.elim
  · exact hz.elim
theorem e_pKey (hu : X.A.units + 1 < cLine) (ho : PE X o (rdP T pl)) (hi : PE X e (rdE T x)) (hs : NoSl e) : PE X (.Subscript o e pos) (rdP T (apKey pl x)) := (pe_dget hu ho hi hs).mono fun σ H Q h => by
  obtain ⟨G, F, δ, P, R, h, k⟩ := h
  refine ⟨G, F, δ, _, R, h, fun i c kk hw F1 H1 g l m v A u B e1 e2 o S => ?_⟩
  refine ⟨G, F1, δ, _, R.go g, hw, fun w hz v2 F2 H2 g2 r2 => ?_⟩
  clear hw
  split at hz
  · rename_i t ks ms kd hkd
    split at hz
    · rename_i key hk
      split at hz
      · rename_i y hy
        obtain ⟨F3, g3, r3⟩ := clW_rep g2 r2 hkd
        have S3 := S.go g3
        obtain ⟨p, ob, vs, u', B', rfl, hp, hd, hu', S'⟩ := sub_td S3.ow hy
        refine ⟨p, u', rfl, ?_, k _ _ _ hz F3 H2 (g.trans g3) l m v A u' B' e1 e2 (o.go g3) (S3.trans S')⟩
        rw [← hu']
        exact dct_get hd hp (Rep.mono g3.ex r3) hk
      · exact hz.elim
    · exact hz.elim
  · exact hz.elim
/-- a place has been changed -/
theorem RepS.plc (R : RepS T G F H σ δ) (g : Go F H F1 H1) (e : gt δ i = .ow l m) (hv : gs σ i = some v) (hA : Own T F1 H1 v m A) (S : Sub T F1 H1 v m A u k B c) (ex : Same F2 H2) (sF : Same F1 F2) (nF : ∀ a, a ∉ B → H1 a ≠ none → NT H2 a → F2 a = F1 a)
    (fr : ∀ a, a ∉ B → H1 a ≠ none → H2 a = H1 a) (th : ∀ a, H1 a ≠ none → H2 a ≠ none) (o : Own T F2 H2 u k' B') (hB : ∀ a ∈ B', a ∈ B ∨ H a = none) : RepS T G F2 H2 σ (setP δ i (c k')) := by
  obtain ⟨v0, A0, q1, q2, _⟩ := R.own e
  rw [hv] at q1; cases q1
  cases Own.det hA (q2.go g)
  obtain ⟨A', o', hA'⟩ := S.re (fun a => H a = none) F2 H2 k' B' (fun a n q => (q2.mem a q).1 n) sF nF fr o hB
  unfold setP
  rw [e]
  exact R.step g e hv hA ex sF (fun a n q t => nF a (fun z => n (S.sub a z)) q t) (fun a n q => fr a (fun z => n (S.sub a z)) q) th o' hA'
end
/-! ### a place is changed -/
def aMutP (ty : String) (pl : AP) (f : FM) (es : AA) : AS := fun E δ => pl δ fun i c k => tyM k = ty ∧ es δ fun ws => f k ws fun k' _ => E.nx (setP δ i (c k'))
/-- what moves into a tree -/
def kidW : W → Option M
  | .cl d => some (.cl d)
  | .fr m => some m
  | _ => none
def aFSet (cn j : Nat) (pl : AP) (e : AE) : AS := fun E δ => e δ fun w => pl δ fun i c k => match k, kidW w with
  | .ti c' ms, some x => (c' = cn ∧ j < ms.length) ∧ E.nx (setP δ i (c (.ti c' (ms.set j x))))
  | _, _ => False
def putM : M → List Key → M → Option M
  | .fd t ks ds, k, .cl d => some (.fd t (putKs ks k) (putVs ks ds k d))
  | .td t ks ms, k, x => some (.td t (putKs ks k) (putVs ks ms k x))
  | .fd t [] [], k, x => some (.td t [k] [x])
  | _, _, _ => none
def dctM : M → Option (Bool × List (List Key))
  | .fd t ks _ => some (t, ks)
  | .td t ks _ => some (t, ks)
  | _ => none
def aDPutP (pl : AP) (ky e : AE) : AS := fun E δ => e δ fun w => pl δ fun i c k => ky δ fun z => match kidW w, clW z, dctM k with
  | some x, some kd, some (t, ks) => ks.length < 1000000 ∧ match keyO t kd with
    | some key => match putM k key x with
      | some k' => E.nx (setP δ i (c k'))
      | none => False
    | none => False
  | _, _, _ => False
section
variable {T : Tb} {F H : Hp}
theorem putF_set {fs : List Str} : ∀ {vs : List V} {j : Nat} {f : Str} {v : V}, fs.Nodup → fs.length = vs.length → fs[j]? = some f → putF f v (fs.zip vs) = fs.zip (vs.set j v) := by
  induction fs with
  | nil => intro vs j f v _ _ h; simp at h
  | cons g fs ih =>
    intro vs j f v nd hl h
    cases vs with
    | nil => cases hl
    | cons w vs =>
      cases j with
      | zero =>
        simp at h; subst h
        show (if g = g then _ else _) = _
        rw [if_pos rfl]; rfl
      | succ j =>
        have hf : f ∈ fs := List.mem_of_getElem? (by simpa using h)
        have ne : g ≠ f := fun e => (List.nodup_cons.mp nd).1 (e ▸ hf)
        show (if g = f then _ else (g, w) :: putF f v (fs.zip vs)) = _
        rw [if_neg ne, ih (List.nodup_cons.mp nd).2 (by simpa using hl) (by simpa using h)]
        rfl
theorem Owns.setD {N : Addr → Prop} : ∀ {vs : List V} {ms : List M} {A : List Addr} {j : Nat} {v : V} {m : M} {B : List Addr}, Owns T F H vs ms A → Own T F H v m B → (∀ a ∈ B, N a) → (∀ a, N a → a ∉ A) → ∃ A', Owns T F H (vs.set j v) (ms.set j m) A' ∧ ∀ a ∈ A', a ∈ A ∨ N a
  | _, _, _, _, _, _, _, .nil, _, _, _ => ⟨[], .nil, fun a q => nomatch q⟩
  | _, _, _, 0, v, m, B, .cons (A := A1) (B := B1) o t d, o', hB, hN => by
    refine ⟨B ++ B1, .cons o' t fun a q z => hN a (hB a q) (List.mem_append_right _ z), fun a q => ?_⟩
    rcases List.mem_append.mp q with q | q
    · exact .inr (hB a q)
    · exact .inl (List.mem_append_right _ q)
  | _, _, _, j + 1, v, m, B, .cons (A := A1) (B := B1) o t d, o', hB, hN => by
    obtain ⟨B2, t2, h2⟩ := Owns.setD (j := j) t o' hB fun a n q => hN a n (List.mem_append_right _ q)
    refine ⟨A1 ++ B2, .cons o t2 fun a q z => ?_, fun a q => ?_⟩
    · rcases h2 a z with y | y
      · exact d a q y
      · exact hN a y (List.mem_append_left _ q)
    · rcases List.mem_append.mp q with q | q
      · exact .inl (List.mem_append_left _ q)
      · rcases h2 a q with y | y
        · exact .inl (List.mem_append_right _ y)
        · exact .inr y
theorem Owns.snoc {N : Addr → Prop} : ∀ {vs : List V} {ms : List M} {A : List Addr} {v : V} {m : M} {B : List Addr}, Owns T F H vs ms A → Own T F H v m B → (∀ a ∈ B, N a) → (∀ a, N a → a ∉ A) → ∃ A', Owns T F H (vs ++ [v]) (ms ++ [m]) A' ∧ ∀ a ∈ A', a ∈ A ∨ N a
  | _, _, _, v, m, B, .nil, o', hB, hN => ⟨B ++ [], Owns.cons o' Owns.nil fun a q z => (nomatch z), fun a q => .inr (hB a (by simpa using q))⟩
  | _, _, _, v, m, B, .cons (A := A1) (B := B1) o t d, o', hB, hN => by
    obtain ⟨B2, t2, h2⟩ := Owns.snoc t o' hB fun a n q => hN a n (List.mem_append_right _ q)
    refine ⟨A1 ++ B2, .cons o t2 fun a q z => ?_, fun a q => ?_⟩
    · rcases h2 a z with y | y
      · exact d a q y
      · exact hN a y (List.mem_append_left _ q)
    · rcases List.mem_append.mp q with q | q
      · exact .inl (List.mem_append_left _ q)
      · rcases h2 a q with y | y
        · exact .inl (List.mem_append_right _ y)
        · exact .inr y
theorem putVs_or {α : Type} : ∀ (ks : List (List Key)) (xs : List α) (k : List Key), ks.length = xs.length → (∃ j, ∀ (β : Type) (ys : List β) (v : β), ys.length = xs.length → putVs ks ys k v = ys.set j v) ∨ ∀ (β : Type) (ys : List β) (v : β), ys.length = xs.length → putVs ks ys k v = ys ++ [v]
  | [], [], k, _ => .inr fun β ys v h => by
    cases ys with
    | nil => rfl
    | cons _ _ => cases h
  | [], _ :: _, _, h => by simp at h
  | _ :: _, [], _, h => by simp at h
  | a :: ks, x :: xs, k, h => by
    by_cases e : a = k
    · refine .inl ⟨0, fun β ys v hl => ?_⟩
      cases ys with
      | nil => cases hl
      | cons y ys =>
        show (if a = k then v :: ys else _) = _
        rw [if_pos e]; rfl
    · rcases putVs_or ks xs k (by simpa using h) with ⟨j, hj⟩ | hj
      · refine .inl ⟨j + 1, fun β ys v hl => ?_⟩
        cases ys with
        | nil => cases hl
        | cons y ys =>
          show (if a = k then v :: ys else y :: putVs ks ys k v) = _
          rw [if_neg e, hj β ys v (by simpa using hl)]; rfl
      · refine .inr fun β ys v hl => ?_
        cases ys with
        | nil => cases hl
        | cons y ys =>
          show (if a = k then v :: ys else y :: putVs ks ys k v) = _
          rw [if_neg e, hj β ys v (by simpa using hl)]; rfl
theorem Owns.putVs {N : Addr → Prop} {vs : List V} {ms : List M} {A B : List Addr} {ks : List (List Key)} {k : List Key} {v : V} {m : M} (hl : ks.length = vs.length) (t : Owns T F H vs ms A) (o : Own T F H v m B) (hB : ∀ a ∈ B, N a) (hN : ∀ a, N a → a ∉ A) :
    ∃ A', Owns T F H (putVs ks vs k v) (Vl.putVs ks ms k m) A' ∧ ∀ a ∈ A', a ∈ A ∨ N a := by
  rcases putVs_or ks vs k hl with ⟨j, hj⟩ | hj
  · rw [hj _ vs v rfl, hj _ ms m t.length.symm]
    exact t.setD o hB hN
  · rw [hj _ vs v rfl, hj _ ms m t.length.symm]
    exact t.snoc o hB hN
theorem Reps.putVs {vs : List V} {ds : List D} {ks : List (List Key)} {k : List Key} {v : V} {d : D} (hl : ks.length = vs.length) (t : Reps T F vs ds) (r : Rep T F v d) : Reps T F (putVs ks vs k v) (Vl.putVs ks ds k d) := by
  rcases putVs_or ks vs k hl with ⟨j, hj⟩ | hj
  · rw [hj _ vs v rfl, hj _ ds d t.length.symm]
    exact t.set j r
  · rw [hj _ vs v rfl, hj _ ds d t.length.symm]
    exact t.snoc r
end
section
variable {T : Tb} {X : Cx} {G : Gx} {F F1 F2 H H1 H2 : Hp} {σ : L2.St} {δ : List AV} {e o ki : Expr} {x kk : AE} {xs : AA} {pl : AP} {pos pos' : Pos} {cn j i : Nat} {f s : Str} {l : Bool} {m k k' : M} {v u : V} {A B B' : List Addr} {c : M → M} {st : Stmt} {K : PySem.W.Frag} {Ty : String} {r : V → List V → Hp → VK → Prop} {fm : FM}
theorem s_mutP (hf : MutV T r fm) (hTK : T.K = K) (h : PS X st (tDrop (tBM K Ty r (rdP T pl) (rdA T xs)))) (hT : Ty ≠ "" := by decide) : PS X st (rdS T (aMutP Ty pl fm xs)) := h.mono fun D' σ H h => by
  obtain ⟨G, F, δ, E, R, h, k⟩ := h
  refine ⟨G, F, δ, _, R, h, fun i c kk hw F1 H1 g l m v A u B e1 e2 o S => ?_⟩
  obtain ⟨ht, hw⟩ := hw
  refine ⟨ty_own S.ow ht hT, G, F1, δ, _, R.go g, hw, fun ws hw vs F2 H2 g2 ra => ?_⟩
  have S2 := S.go g2
  have g12 := g.trans g2
  refine hf G F2 H2 u kk B vs ws _ _ g2.ex S2.ow ra hw fun k' d hP z H' B' ch o' hB' rz => ?_
  exact k.nx _ hP F2 H' σ g12.f (R.plc g12 e1 e2 (o.go g2) S2 ch.ex (Same.refl _) (fun _ _ _ _ => rfl) ch.fr ch.th o' fun a q => .inl (hB' a q))
theorem s_mutP0 (hf : MutV T r fm) (h : PS X st (tDrop (tBM0 K Ty r (rdP T pl)))) (hT : Ty ≠ "" := by decide) : PS X st (rdS T (aMutP Ty pl fm aNil)) := h.mono fun D' σ H h => by
  obtain ⟨G, F, δ, E, R, h, k⟩ := h
  refine ⟨G, F, δ, _, R, h, fun i c kk hw F1 H1 g l m v A u B e1 e2 o S => ?_⟩
  obtain ⟨ht, hw⟩ := hw
  refine ⟨ty_own S.ow ht hT, ?_⟩
  refine hf G F1 H1 u kk B [] [] _ _ g.ex S.ow .nil hw fun k' d hP z H' B' ch o' hB' rz => ?_
  exact k.nx _ hP F1 H' σ g.f (R.plc g e1 e2 o S ch.ex (Same.refl _) (fun _ _ _ _ => rfl) ch.fr ch.th o' fun a q => .inl (hB' a q))
/-- what moves in: its objects are new -/
theorem kid_own {F' H' : Hp} {w : W} {x : M} (g : Go F H F' H') (rw : RepW T G H F' H' v w) (hk : kidW w = some x) : ∃ B, Own T F' H' v x B ∧ ∀ a ∈ B, H a = none := by
  cases w with
  | cl d => cases hk; exact ⟨[], .cl rw, fun a q => nomatch q⟩
  | fr m => cases hk; exact rw
  | bw m => cases hk
  | ow m => cases hk
theorem s_fset (hTK : T.K = X.K) (hC : Cls X.K (T.cl cn)) (hn : NoAttr X.K (T.cl cn) f) (hd : (T.fs cn).Nodup) (hj : (T.fs cn)[j]? = some f) (hsm : (T.fs cn).length < 1000) (ho : PE X o (rdP T pl)) (hv : PE X e (rdE T x)) (hs : swapsWith e (some (.Attribute o f pos')) pos.line X.env = pure false := by rfl) :
    PS X (.Assign [.Attribute o f pos'] e pos) (rdS T (aFSet cn j pl x)) := (ps_fld ho hv hs).mono fun D' σ H h => by
  obtain ⟨G, F, δ, E, R, h, k⟩ := h
  refine ⟨G, F, δ, _, R, h, fun w hw y F1 H1 g r1 => ?_⟩
  refine ⟨G, F1, δ, _, R.go g, hw, fun i c kk hz F2 H2 g2 l m v A u B e1 e2 o S => ?_⟩
  clear hw
  split at hz
  · rename_i c' ms x hk
    obtain ⟨⟨rfl, hlt⟩, hz⟩ := hz
    obtain ⟨p, dx, vs, C, rfl, rfl, hp, hf, hl, hnC, t⟩ := own_ti S.ow
    obtain ⟨D, od, hD⟩ := kid_own (g.trans g2) (r1.go g2) hk
    have g12 := g.trans g2
    refine ⟨p, _, dx, _, rfl, hp, hC, hn, by rw [List.length_zip]; omega, ?_⟩
    rw [putF_set hd hl hj]
    have R2 := R.go g12
    have cu := chg_upd (A := p :: C) (o := .ins (T.cl c') dx ((T.fs c').zip (vs.set j y))) R2.ex List.mem_cons_self hf
    have pD : p ∉ D := fun q => by
      obtain ⟨v0, A0, q1, q2, _⟩ := R.own e1
      rw [e2] at q1; cases q1
      cases Own.det o (q2.go g12)
      exact (q2.mem p (S.sub p List.mem_cons_self)).1 (hD p q)
    have hND : ∀ a, H a = none → a ∉ C := fun a n q => by
      obtain ⟨v0, A0, q1, q2, _⟩ := R.own e1
      rw [e2] at q1; cases q1
      cases Own.det o (q2.go g12)
      exact (q2.mem a (S.sub a (List.mem_cons_of_mem _ q))).1 n
    have od' : Own T F2 (upd H2 p (.ins (T.cl c') dx ((T.fs c').zip (vs.set j y)))) y x D := od.keep (Same.refl _) (fun a q => upd_ne fun z => pD (z ▸ q)) fun a q => (od.mem a q).2
    have t' : Owns T F2 (upd H2 p (.ins (T.cl c') dx ((T.fs c').zip (vs.set j y)))) vs ms C := t.keep (Same.refl _) (fun a q => upd_ne fun z => hnC (z ▸ q)) fun a q => (t.mem a q).2
    obtain ⟨C', t2, hC'⟩ := t'.setD (j := j) od' hD hND
    refine k.nx _ hz F2 _ σ g12.f (R.plc g12 e1 e2 o S cu.ex (Same.refl _) (fun _ _ _ _ => rfl) cu.fr cu.th (.ti upd_same hf (by rw [List.length_set]; exact hl) (fun q => ?_) t2) fun a q => ?_)
    · rcases hC' p q with z | z
      · exact hnC z
      · obtain ⟨v0, A0, q1, q2, _⟩ := R.own e1
        rw [e2] at q1; cases q1
        cases Own.det o (q2.go g12)
        exact (q2.mem p (S.sub p List.mem_cons_self)).1 z
    · rcases List.mem_cons.mp q with q | q
      · rw [q]; exact .inl List.mem_cons_self
      · rcases hC' a q with z | z
        · exact .inl (List.mem_cons_of_mem _ z)
        · exact .inr z
  · exact hz.elim
/-- an entry of an own dict: the object and the tree behind the store -/
theorem own_put {t : Bool} {ks : List (List Key)} {key : List Key} {x k' : M} {y kv : V} {kd : D} {D : List Addr} {N : Addr → Prop} (ex : Same F H) (o : Own T F H u k B) (hk : dctM k = some (t, ks)) (hp : putM k key x = some k') (rk : Rep T H kv kd) (hkey : keyO t kd = some key) (hl : ks.length < 1000000)
    (od : Own T F H y x D) (hD : ∀ a ∈ D, N a) (hN : ∀ a, N a → a ∉ B) : ∃ p o' B', u = .ref p ∧ DPut H p kv y (upd H p o') ∧ Chg F H B (upd H p o') ∧ Own T F (upd H p o') u k' B' ∧ ∀ a ∈ B', a ∈ B ∨ N a := by
  have leaf : ∀ {p : Addr} {ob : HO} {vs : List V}, k = .fd t ks [] → u = .ref p → B = [p] → H p = some ob → F p = none → DctO t ob ks vs → ks = [] → vs = [] → k' = .td t [key] [x] → ∃ p o' B', u = .ref p ∧ DPut H p kv y (upd H p o') ∧ Chg F H B (upd H p o') ∧ Own T F (upd H p o') u k' B' ∧ ∀ a ∈ B', a ∈ B ∨ N a := by
    rintro p ob vs _ rfl rfl hp0 hf hd rfl rfl rfl
    obtain ⟨o', h1, h2⟩ := dct_put hd hp0 rk hkey (dSz_lt hl) y
    have pD : p ∉ D := fun q => hN p (hD p q) List.mem_cons_self
    have od' : Own T F (upd H p o') y x D := od.keep (Same.refl _) (fun a q => upd_ne fun z => pD (z ▸ q)) fun a q => (od.mem a q).2
    refine ⟨p, o', p :: (D ++ []), rfl, h1, chg_upd ex List.mem_cons_self hf, .td upd_same hf ?_ (fun q => pD (by simpa using q)) (.cons od' .nil fun a q z => nomatch z), fun a q => ?_⟩
    · have e1 : putKs [] key = [key] := by unfold putKs; rw [if_neg List.not_mem_nil]; rfl
      rw [e1] at h2
      exact h2
    · rcases List.mem_cons.mp q with q | q
      · rw [q]; exact .inl List.mem_cons_self
      · exact .inr (hD a (by simpa using q))
  cases k with
  | cl d => cases hk
  | fl ds => cases hk
  | tl ms => cases hk
  | ti c ms => cases hk
  | tp ms => cases hk
  | nd ms => cases hk
  | fd t' ks' ds =>
    cases hk
    obtain ⟨p, ob, vs, rfl, rfl, h, f, d, r⟩ := own_fd o
    have leaf2 : ds = [] → ks = [] → k' = .td t [key] [x] → ∃ p' o' B', V.ref p = .ref p' ∧ DPut H p' kv y (upd H p' o') ∧ Chg F H [p] (upd H p' o') ∧ Own T F (upd H p' o') (.ref p) k' B' ∧ ∀ a ∈ B', a ∈ [p] ∨ N a := by
      intro h1 h2 h3
      subst h1
      have hv : vs = [] := by cases r; rfl
      exact leaf rfl rfl rfl h f d h2 hv h3
    cases x with
    | cl dd =>
      have hp : some (M.fd t (putKs ks key) (putVs ks ds key dd)) = some k' := hp
      cases hp
      obtain ⟨o', h1, h2⟩ := dct_put d h rk hkey (dSz_lt hl) y
      obtain ⟨rd, _⟩ := own_clean od
      exact ⟨_, o', _, rfl, h1, chg_upd ex List.mem_cons_self f, .fd upd_same f h2 (r.putVs (dct_len d) rd), fun a q => .inl q⟩
    | fl a => cases ks <;> cases ds <;> first | (cases hp; done) | (cases hp; exact leaf2 rfl rfl rfl)
    | fd a b c => cases ks <;> cases ds <;> first | (cases hp; done) | (cases hp; exact leaf2 rfl rfl rfl)
    | tl a => cases ks <;> cases ds <;> first | (cases hp; done) | (cases hp; exact leaf2 rfl rfl rfl)
    | td a b c => cases ks <;> cases ds <;> first | (cases hp; done) | (cases hp; exact leaf2 rfl rfl rfl)
    | ti a b => cases ks <;> cases ds <;> first | (cases hp; done) | (cases hp; exact leaf2 rfl rfl rfl)
    | tp a => cases ks <;> cases ds <;> first | (cases hp; done) | (cases hp; exact leaf2 rfl rfl rfl)
    | nd a => cases ks <;> cases ds <;> first | (cases hp; done) | (cases hp; exact leaf2 rfl rfl rfl)
  | td t' ks' ms =>
    cases hk
    obtain ⟨p, ob, vs, C, rfl, rfl, h, f, d, n, tt⟩ := own_td o
    have hp : some (M.td t (putKs ks key) (putVs ks ms key x)) = some k' := by cases x <;> exact hp
    cases hp
    obtain ⟨o', h1, h2⟩ := dct_put d h rk hkey (dSz_lt hl) y
    have hpB : ∀ a, N a → a ∉ C := fun a q z => hN a q (List.mem_cons_of_mem _ z)
    have pN : ∀ a, N a → a ≠ p := fun a q z => hN a q (by rw [z]; exact List.mem_cons_self)
    have od' : Own T F (upd H p o') y x D := od.keep (Same.refl _) (fun a q => upd_ne (pN a (hD a q))) fun a q => (od.mem a q).2
    have tt' : Owns T F (upd H p o') vs ms C := tt.keep (Same.refl _) (fun a q => upd_ne fun z => n (z ▸ q)) fun a q => (tt.mem a q).2
    obtain ⟨C', t2, hC'⟩ := tt'.putVs (ks := ks) (k := key) (dct_len d) od' hD hpB
    refine ⟨p, o', p :: C', rfl, h1, chg_upd ex List.mem_cons_self f, .td upd_same f h2 (fun q => ?_) t2, fun a q => ?_⟩
    · rcases hC' p q with z | z
      · exact n z
      · exact pN p z rfl
    · rcases List.mem_cons.mp q with q | q
      · rw [q]; exact .inl List.mem_cons_self
      · rcases hC' a q with z | z
        · exact .inl (List.mem_cons_of_mem _ z)
        · exact .inr z
theorem s_dputP (hu : X.A.units + 1 < cLine) (ho : PE X o (rdP T pl)) (hi : PE X ki (rdE T kk)) (hv : PE X e (rdE T x)) (hs : swapsWith e (some (.Subscript o ki pos')) pos.line X.env = pure false := by rfl) :
    PS X (.Assign [.Subscript o ki pos'] e pos) (rdS T (aDPutP pl kk x)) := (ps_dput hu ho hi hv hs).mono fun D' σ H h => by
  obtain ⟨G, F, δ, E, R, h, k⟩ := h
  refine ⟨G, F, δ, _, R, h, fun w hw y F1 H1 g r1 => ?_⟩
  refine ⟨G, F1, δ, _, R.go g, hw, fun i c kt hw2 F2 H2 g2 l m v A u B e1 e2 ow S => ?_⟩
  refine ⟨G, F2, δ, _, R.go (g.trans g2), hw2, fun z hz kv F3 H3 g3 r3 => ?_⟩
  clear hw hw2
  split at hz
  · rename_i xm kd t ks hx hkd hdm
    obtain ⟨hl, hz⟩ := hz
    split at hz
    · rename_i key hkey
      split at hz
      · rename_i k' hk'
        obtain ⟨F4, g4, rk⟩ := clW_rep g3 r3 hkd
        have gg := (g.trans g2).trans g4
        have S4 := S.go g4
        obtain ⟨D, od, hD⟩ := kid_own gg ((r1.go g2).go g4) hx
        have R4 := R.go gg
        have hN : ∀ a, H a = none → a ∉ B := fun a n q => by
          obtain ⟨v0, A0, q1, q2, _⟩ := R.own e1
          rw [e2] at q1; cases q1
          cases Own.det (ow.go g4) (q2.go gg)
          exact (q2.mem a (S.sub a q)).1 n
        obtain ⟨p, o', B', rfl, hput, ch, o2, hB'⟩ := own_put (N := fun a => H a = none) R4.ex S4.ow hdm hk' (Rep.mono R4.ex rk) hkey hl od hD hN
        exact ⟨p, _, rfl, hput, k.nx _ hz F4 _ σ gg.f (R.plc gg e1 e2 (ow.go g4) S4 ch.ex (Same.refl _) (fun _ _ _ _ => rfl) ch.fr ch.th o2 hB')⟩
      · exact hz.elim
    · exact hz.elim
  · exact hz.elim
end
end Vl
/-! x == y by the text's own __eq__, whatever it answers. -/
namespace Vl
open PySem PySem.Spec PyProof.Rows L2
def rOwn (K : PySem.W.Frag) (C : Addr) (sp : Sp) (E : XK) : R2 := fun x y H Q => ∃ a dx fs t, x = .ref a ∧ H a = some (.ins C dx fs) ∧ TyX K H y t ∧ PySem.W.notFirst K C t = true ∧ sp [x, y] H (fun v H' => (∃ b, v = .bl b) ∧ Q v H') E
section
variable {X : Cx} {CX : CXT} {C f : Addr} {fd : FuncData} {ps : List Str} {sp : Sp} {E : XK} {n : Nat}
theorem op_own (F : FnOk X.prog X.w X.K X.mg X.base CX n f fd ps sp) (hm : Meth X.K C "__eq__" f) (hb : Binds X.K fd ps []) (hx : Passes CX X E) (hr : Room n X.A) : OpR X (compareOp .Eq) (rOwn X.K C sp E) := by
  intro pins s σ H x y v u Q I rx ry hq
  obtain ⟨a, dx, fs, t, rfl, ha, ty, nf, hsp⟩ := hq
  cases rx
  show wpAny (model X.prog X.w) X.A (richCompare .Eq (.ref a) u) (EP X pins σ Q) X.xe s
  obtain ⟨mA, J, _⟩ := ins_get I.hok ha
  obtain ⟨od, J, _⟩ := J.look
  obtain ⟨m, hF⟩ := I.fr
  obtain ⟨P, Z, pz, _⟩ := kit_of I ry ty
  refine PySem.W.cmp_K (op := .Eq) (tb := t) hr.units0 hF I.ok.mod.kin J (Z.ty _ _ I.kIn pz) nf hm.at_ hm.fn ?_
  have hl := F.len _ _ _ _ hsp
  have r2 : Vals [V.ref a, y] [Value.ref a, u] := .cons rfl (.cons ry .nil)
  refine wpAny_call (codeAny_mono (F.run X.A X.stack s H ⟨[.ref a, u], []⟩ [.ref a, u] [.ref a, y] _ E hr I.env0 (by
    have := hb s [.ref a, u] I.kIn (by simpa using hl)
    simpa using this) r2 hsp) fun r s' hq => ?_)
  cases r with
  | error e => exact hx pins σ H s e s' I hq
  | ok fl =>
    cases fl with
    | ret w =>
      obtain ⟨z, H', I', rz, ⟨b, ez⟩, q⟩ := I.after hq
      subst ez
      cases rz
      exact ⟨.bl b, H', I', rfl, q⟩
    | next => exact False.elim hq
    | brk => exact False.elim hq
    | cont => exact False.elim hq
end
/-- what == asks of an own class beside -/
structure EqOk (K : PySem.W.Frag) (C : Addr) : Prop where
  ins : C8.InsC K C
  sl : PySem.W.subIn K (.type "list") (.ref C) = some false
  si : PySem.W.subIn K (.type "int") (.ref C) = some false
def dEqO (c : Nat) (ct : Ct) : W → W → (W → Prop) → Prop := fun x y Q => match x, y with
  | .cl (.ins c' ds), .cl (.ins c2 es) => (c' = c ∧ c2 = c) ∧ ct [.cl (.ins c' ds), .cl (.ins c2 es)] fun w => ∃ b, w = .cl (.bl b) ∧ Q w
  | .cl (.ins c' ds), .cl (.lst es) => c' = c ∧ ct [.cl (.ins c' ds), .cl (.lst es)] fun w => ∃ b, w = .cl (.bl b) ∧ Q w
  | .cl (.ins c' ds), .cl (.int i) => c' = c ∧ ct [.cl (.ins c' ds), .cl (.int i)] fun w => ∃ b, w = .cl (.bl b) ∧ Q w
  | _, _ => False
theorem b_eqO {T : Tb} {c : Nat} {ct : Ct} (I : EqOk T.K (T.cl c)) : Bin2 T (rOwn T.K (T.cl c) (spC T ct) E0) (dEqO c ct) := by
  intro G F H F' H' x y u w P Q go rx ry h k
  have fin : ∀ {us : List V} {ws : List W}, RepAs T G F' H' us ws → ct ws (fun w => ∃ b, w = .cl (.bl b) ∧ P w) → spC T ct us H' (fun v H' => (∃ b, v = .bl b) ∧ Q v H') E0 := fun {us ws} r hc =>
    ⟨G, F', ws, _, go.ex, r, hc, fun w hw v F2 H2 g2 r2 => by
      obtain ⟨b, rfl, q⟩ := hw
      cases r2
      exact ⟨⟨b, rfl⟩, k _ q _ F2 H2 (go.trans g2) (.bl b)⟩⟩
  unfold dEqO at h
  split at h
  · rename_i c' ds c2 es
    obtain ⟨⟨rfl, rfl⟩, hc⟩ := h
    obtain ⟨a, dx, vs, rfl, ha, _, _⟩ := rep_ins rx
    obtain ⟨b, dy, ws, rfl, hb, _, _⟩ := rep_ins ry
    exact ⟨a, dx, _, _, rfl, go.ex _ _ ha, .base (.ins (go.ex _ _ hb) I.ins.cl I.ins.ha I.ins.hn I.ins.htk I.ins.hm), by simp [PySem.W.notFirst], fin (.cons (w := .cl (.ins c2 ds)) rx (.cons (w := .cl (.ins c2 es)) ry .nil)) hc⟩
  · rename_i c' ds es
    obtain ⟨rfl, hc⟩ := h
    obtain ⟨a, dx, vs, rfl, ha, _, _⟩ := rep_ins rx
    obtain ⟨b, ws, rfl, hb, _⟩ := rep_lst ry
    exact ⟨a, dx, _, _, rfl, go.ex _ _ ha, .base (.lst (go.ex _ _ hb)), by simp [PySem.W.notFirst, I.sl], fin (.cons (w := .cl (.ins c' ds)) rx (.cons (w := .cl (.lst es)) ry .nil)) hc⟩
  · rename_i c' ds i
    obtain ⟨rfl, hc⟩ := h
    obtain ⟨a, dx, vs, rfl, ha, _, _⟩ := rep_ins rx
    cases rep_int ry
    exact ⟨a, dx, _, _, rfl, go.ex _ _ ha, .base (.int i), by simp [PySem.W.notFirst, I.si], fin (.cons (w := .cl (.ins c' ds)) rx (.cons (w := .cl (.int i)) (.int i) .nil)) hc⟩
  · exact h.elim
end Vl
/-! Dicts that are read: d[k], d.get(k, x), k in d; {}. -/
namespace Vl
open PySem PySem.Spec PyProof.Rows L2
def kidsW : W → Option (Bool × List (List Key) × List W)
  | .cl (.dct t ks ds) => some (t, ks, ds.map W.cl)
  | .bw (.fd t ks ds) => some (t, ks, ds.map W.cl)
  | .ow (.fd t ks ds) => some (t, ks, ds.map W.cl)
  | .bw (.td t ks ms) => some (t, ks, ms.map bwM)
  | .ow (.td t ks ms) => some (t, ks, ms.map owM)
  | _ => none
/-- d[k] -/
def aDIx (o ky : AE) : AE := fun δ Q => o δ fun w => ky δ fun z => match kidsW w, clW z with
  | some (t, ks, ws), some kd => match keyO t kd with
    | some key => match getK ks ws key with
      | some x => Q x
      | none => False
    | none => False
  | _, _ => False
/-- d.get(k, x) -/
def aDGet (o ky z : AE) : AE := fun δ Q => o δ fun w => (∃ t ks ws, kidsW w = some (t, ks, ws)) ∧ ky δ fun kw => z δ fun zw => match kidsW w, clW kw with
  | some (t, ks, ws), some kd => match keyO t kd with
    | some key => match getK ks ws key with
      | some x => Q x
      | none => Q zw
    | none => False
  | _, _ => False
def aDNew (t : Bool) : AE := fun _ Q => Q (.fr (.fd t [] []))
def fLenD : List W → (W → Prop) → Prop := one fun w Q => match kidsW w with
  | some (_, ks, _) => Q (.cl (.int ks.length))
  | none => False
section
variable {T : Tb} {G : Gx} {Hs F H F' H' : Hp} {v : V} {w : W} {t : Bool} {ks : List (List Key)} {ws : List W}
theorem RepW.kids (e : Same F H) (h : RepW T G Hs F H v w) (k : kidsW w = some (t, ks, ws)) : ∃ p o vs, v = .ref p ∧ H p = some o ∧ DctO t o ks vs ∧ vs.length = ws.length ∧ ∀ (j : Nat) (u : V) (x : W), vs[j]? = some u → ws[j]? = some x → RepW T G Hs F H u x := by
  unfold kidsW at k
  split at k
  · cases k
    cases h with
    | dct q l r =>
      refine ⟨_, _, _, rfl, e _ _ q, l, by rw [List.length_map]; exact r.length, fun j u x hu hx => ?_⟩
      rw [List.getElem?_map] at hx
      obtain ⟨d, hd, rd⟩ := r.get hu
      rw [hd] at hx; cases hx
      exact rd
  · cases k
    obtain ⟨A, o, _⟩ := h
    obtain ⟨p, ob, vs, rfl, _, q, _, l, r⟩ := own_fd o
    refine ⟨_, _, _, rfl, q, l, by rw [List.length_map]; exact r.length, fun j u x hu hx => ?_⟩
    rw [List.getElem?_map] at hx
    obtain ⟨d, hd, rd⟩ := r.get hu
    rw [hd] at hx; cases hx
    exact rd
  · cases k
    obtain ⟨A, o⟩ := h
    obtain ⟨p, ob, vs, rfl, _, q, _, l, r⟩ := own_fd o
    refine ⟨_, _, _, rfl, q, l, by rw [List.length_map]; exact r.length, fun j u x hu hx => ?_⟩
    rw [List.getElem?_map] at hx
    obtain ⟨d, hd, rd⟩ := r.get hu
    rw [hd] at hx; cases hx
    exact rd
  · rename_i ms
    cases k
    obtain ⟨A, o, hA⟩ := h
    obtain ⟨p, ob, vs, B, rfl, rfl, q, _, l, _, r⟩ := own_td o
    refine ⟨_, _, _, rfl, q, l, by rw [List.length_map]; exact r.length, fun j u x hu hx => ?_⟩
    rw [List.getElem?_map] at hx
    cases hm : ms[j]? with
    | none => rw [hm] at hx; cases hx
    | some m =>
      rw [hm] at hx; cases hx
      obtain ⟨u', C, hu', ou, hC⟩ := r.at hm
      rw [hu] at hu'; cases hu'
      exact bwM_rep ou fun a z => hA a (List.mem_cons_of_mem _ (hC a z))
  · rename_i ms
    cases k
    obtain ⟨A, o⟩ := h
    obtain ⟨p, ob, vs, B, rfl, rfl, q, _, l, _, r⟩ := own_td o
    refine ⟨_, _, _, rfl, q, l, by rw [List.length_map]; exact r.length, fun j u x hu hx => ?_⟩
    rw [List.getElem?_map] at hx
    cases hm : ms[j]? with
    | none => rw [hm] at hx; cases hx
    | some m =>
      rw [hm] at hx; cases hx
      obtain ⟨u', C, hu', ou, hC⟩ := r.at hm
      rw [hu] at hu'; cases hu'
      exact owM_rep ou
  · cases k
theorem getK_two {α β : Type} : ∀ {ks : List (List Key)} {xs : List α} {ys : List β} {k : List Key}, xs.length = ys.length → (getK ks xs k = none ∧ getK ks ys k = none) ∨ ∃ (j : Nat) (x : α) (y : β), xs[j]? = some x ∧ ys[j]? = some y ∧ getK ks xs k = some x ∧ getK ks ys k = some y
  | [], _, _, _, _ => .inl ⟨rfl, rfl⟩
  | _ :: _, [], [], _, _ => .inl ⟨rfl, rfl⟩
  | _ :: _, [], _ :: _, _, h => by cases h
  | _ :: _, _ :: _, [], _, h => by cases h
  | a :: ks, x :: xs, y :: ys, k, h => by
    by_cases e : a = k
    · exact .inr ⟨0, x, y, rfl, rfl, if_pos e, if_pos e⟩
    · rcases getK_two (ks := ks) (xs := xs) (ys := ys) (k := k) (by simpa using h) with ⟨h1, h2⟩ | ⟨j, a, b, h1, h2, h3, h4⟩
      · exact .inl ⟨(if_neg e).trans h1, (if_neg e).trans h2⟩
      · exact .inr ⟨j + 1, a, b, by simpa using h1, by simpa using h2, (if_neg e).trans h3, (if_neg e).trans h4⟩
variable {X : Cx} {o ki e : Expr} {x kk zz : AE} {pos apos cpos : Pos}
theorem e_dix (hu : X.A.units + 1 < cLine) (ho : PE X o (rdE T x)) (hi : PE X ki (rdE T kk)) (hs : NoSl ki) : PE X (.Subscript o ki pos) (rdE T (aDIx x kk)) := (pe_dget hu ho hi hs).mono fun σ H Q h => by
  obtain ⟨G, F, δ, P, R, h, k⟩ := h
  refine ⟨G, F, δ, _, R, h, fun w hw v F1 H1 g r1 => ?_⟩
  refine ⟨G, F1, δ, _, R.go g, hw, fun z hz kv F2 H2 g2 r2 => ?_⟩
  split at hz
  · rename_i t ks ws kd hw2 hkd
    split at hz
    · rename_i key hk
      split at hz
      · rename_i y hy
        obtain ⟨F3, g3, r3⟩ := clW_rep g2 r2 hkd
        obtain ⟨p, ob, vs, rfl, hp, hd, hl, hkid⟩ := (r1.go g3).kids g3.ex hw2
        rcases getK_two (ks := ks) (k := key) hl with ⟨_, e2⟩ | ⟨j, a, b, h1, h2, h3, h4⟩
        · rw [hy] at e2; cases e2
        · rw [hy] at h4; cases h4
          exact ⟨p, a, rfl, h3 ▸ dct_get hd hp (Rep.mono g3.ex r3) hk, k _ hz a F3 H2 (g.trans g3) (hkid j a _ h1 h2)⟩
      · exact hz.elim
    · exact hz.elim
  · exact hz.elim
theorem isD_of {t : Bool} {ob : HO} {ks : List (List Key)} {vs : List V} {p : Addr} (hd : DctO t ob ks vs) (hp : H p = some ob) : IsD H p := by
  obtain ⟨_, hd⟩ := hd
  cases t with
  | false => obtain ⟨kvs, rfl, _⟩ := hd; exact .inl ⟨kvs, .inl hp⟩
  | true => obtain ⟨kvs, rfl, _⟩ := hd; exact .inr ⟨kvs, .inl hp⟩
theorem e_dget (hu : X.A.units + 1 < cLine) (ho : PE X o (rdE T x)) (hk : PE X ki (rdE T kk)) (hz : PE X e (rdE T zz)) (m : M2 X o "get" apos ki e cpos) : PE X (.Call (.Attribute o "get" apos) [ki, e] [] cpos) (rdE T (aDGet x kk zz)) :=
  (pe_dget2 hu ho hk hz m).mono fun σ H Q h => by
    obtain ⟨G, F, δ, P, R, h, k⟩ := h
    refine ⟨G, F, δ, _, R, h, fun w ⟨⟨t, ks, ws, hw2⟩, hw⟩ v F1 H1 g r1 => ?_⟩
    obtain ⟨p, ob, vs, rfl, hp, hd, hl, hkid⟩ := r1.kids g.ex hw2
    refine ⟨p, rfl, isD_of hd hp, G, F1, δ, _, R.go g, hw, fun kw hkw kv F2 H2 g2 r2 => ?_⟩
    refine ⟨G, F2, δ, _, (R.go g).go g2, hkw, fun zw hzw zv F3 H3 g3 r3 => ?_⟩
    rw [hw2] at hzw
    split at hzw
    · rename_i t' ks' ws' kd e1 hkd
      cases e1
      split at hzw
      · rename_i key hk
        obtain ⟨F4, g4, rk⟩ := clW_rep (g2.trans g3) (r2.go g3) hkd
        have gd := dct_get hd ((g2.trans g3).h _ _ hp) (Rep.mono g4.ex rk) hk
        refine ⟨_, gd, ?_⟩
        rcases getK_two (ks := ks) (k := key) hl with ⟨e1, e2⟩ | ⟨j, a, b, h1, h2, h3, h4⟩
        · rw [e1]
          rw [e2] at hzw
          exact k _ hzw zv F3 H3 (g.trans (g2.trans g3)) (r3.back (g.trans g2).h)
        · rw [h3]
          rw [h4] at hzw
          exact k _ hzw a F3 H3 (g.trans (g2.trans g3)) ((hkid j a _ h1 h2).go (g2.trans g3))
      · exact hzw.elim
    · exact hzw.elim
end
/-- k in d, k not in d -/
def rInDct (neg : Bool) : R2 := fun x y H Q => ∃ a o, y = .ref a ∧ DGet H a x o ∧ Q (.bl (if neg then !o.isSome else o.isSome)) H
theorem op_inDct {X : Cx} (hu : X.A.units + 1 < cLine) : OpR X (compareOp .In) (rInDct false) := by
  intro pins s σ H x y v u Q I rx ry h
  obtain ⟨a, o, rfl, g, q⟩ := h
  cases ry
  exact d_in hu I g rx fun s3 I3 => ⟨.bl o.isSome, H, I3, rfl, q⟩
theorem op_notInDct {X : Cx} (hu : X.A.units + 1 < cLine) : OpR X (compareOp .NotIn) (rInDct true) := by
  intro pins s σ H x y v u Q I rx ry h
  obtain ⟨a, o, rfl, g, q⟩ := h
  cases ry
  exact d_notIn hu I g rx fun s3 I3 => ⟨.bl (!o.isSome), H, I3, rfl, q⟩
def dInD (neg : Bool) : W → W → (W → Prop) → Prop := fun kw w Q => match kidsW w, kw with
  | some (t, ks, _), .cl kd => match keyO t kd with
    | some key => Q (.cl (.bl (if neg then !decide (key ∈ ks) else decide (key ∈ ks))))
    | none => False
  | _, _ => False
theorem b_inDct {T : Tb} {neg : Bool} : Bin2 T (rInDct neg) (dInD neg) := by
  intro G F H F' H' x y u w P Q go rx ry h k
  unfold dInD at h
  split at h
  · rename_i t ks ws kd hw
    split at h
    · rename_i key hk
      obtain ⟨p, ob, vs, rfl, hp, hd, hl, _⟩ := ry.kids go.ex hw
      refine ⟨p, _, rfl, dct_get hd hp (Rep.mono go.ex rx) hk, ?_⟩
      have e : (getK ks vs key).isSome = decide (key ∈ ks) := by
        have := getK_none (k := key) (dct_len hd)
        by_cases q : key ∈ ks
        · rw [decide_eq_true q]
          cases e : getK ks vs key with
          | none => exact absurd q (this.mp e)
          | some _ => rfl
        · rw [decide_eq_false q, this.mpr q]; rfl
      rw [e]
      exact k _ h _ _ _ go (.bl _)
    · exact h.elim
  · exact h.elim
section
variable {T : Tb} {X : Cx} {pos : Pos}
theorem e_dnewK : PE X (.Dict [] [] pos) (rdE T (aDNew false)) := pe_dnewK.mono fun σ H Q h => by
  obtain ⟨G, F, δ, P, R, h, k⟩ := h
  intro p hp
  exact k _ h _ F _ ((Go.refl R.ex).lay hp) ⟨[p], .fd upd_same (R.ex.free hp) ⟨List.nodup_nil, [], rfl, rfl, rfl⟩ .nil, fun a q => by rw [List.mem_singleton.mp q]; exact hp⟩
theorem e_dnewT : PE X (.Dict [] [] pos) (rdE T (aDNew true)) := pe_dnewT.mono fun σ H Q h => by
  obtain ⟨G, F, δ, P, R, h, k⟩ := h
  intro p hp
  exact k _ h _ F _ ((Go.refl R.ex).lay hp) ⟨[p], .fd upd_same (R.ex.free hp) ⟨List.nodup_nil, [], rfl, rfl, rfl⟩ .nil, fun a q => by rw [List.mem_singleton.mp q]; exact hp⟩
end
def rLenDc : List V → Hp → VK → Prop := fun xs H Q => (∃ a kvs, xs = [V.ref a] ∧ H a = some (.dK kvs) ∧ Q (.int kvs.length) H) ∨ rLenT xs H Q
theorem call_lenDc {X : Cx} : CallR X (.builtin "len") rLenDc := call_lenD.or call_len_dT
theorem c_lenD {T : Tb} : CallV T rLenDc fLenD := by
  intro G F H F' H' xs ws P Q g r h k
  obtain ⟨x, w, rfl, rfl, rx, h⟩ := one_inv h r
  split at h
  · rename_i t ks us hw
    obtain ⟨p, ob, vs, rfl, hp, ⟨_, hd⟩, hl, _⟩ := rx.kids g.ex hw
    cases t with
    | false =>
      obtain ⟨kvs, rfl, rfl, rfl⟩ := hd
      rw [List.length_map] at h
      exact .inl ⟨p, kvs, rfl, hp, k _ h _ _ _ g (.int _)⟩
    | true =>
      obtain ⟨kvs, rfl, rfl, rfl⟩ := hd
      rw [List.length_map] at h
      exact .inr ⟨p, kvs, rfl, hp, k _ h _ _ _ g (.int _)⟩
  · exact h.elim
end Vl
/-! Expressions with an effect: calls that lend a place; statements around them. -/
namespace Vl
open PySem PySem.Spec PyProof.Rows L2

abbrev AX := List AV → (W → List AV → Prop) → Prop
abbrev ATX := List AV → (Bool → List AV → Prop) → Prop
/-- a new value stands apart from every own slot -/
def ApartW (T : Tb) (F H : Hp) (σ : L2.St) (δ : List AV) (v : V) (w : W) : Prop := ∀ m i l m' u A B, w = .fr m → gt δ i = .ow l m' → gs σ i = some u → Own T F H v m A → Own T F H u m' B → ∀ a ∈ A, a ∉ B
def rdX (T : Tb) (a : AX) : TE := fun σ H Q => ∃ G F δ P, RepS T G F H σ δ ∧ a δ P ∧ ∀ w δ', P w δ' → ∀ v F' H', Same F F' → RepS T G F' H' σ δ' → RepW T G G.H0 F' H' v w → ApartW T F' H' σ δ' v w → Q v H'
def rdTX (T : Tb) (a : ATX) : TT := fun σ H Q => ∃ G F δ P, RepS T G F H σ δ ∧ a δ P ∧ ∀ b δ', P b δ' → ∀ F' H', Same F F' → RepS T G F' H' σ δ' → Q b H'
def xP (a : AE) : AX := fun δ Q => a δ fun w => Q w δ
def tP (t : AT) : ATX := fun δ Q => t δ fun b => Q b δ
section
variable {T : Tb} {X : Cx} {G : Gx} {F F' F1 F2 H H' H1 H2 : Hp} {σ : L2.St} {δ δ' : List AV} {e o c : Expr} {x : AE} {xx yy : AX} {t : AT} {tx ux : ATX} {pos : Pos} {i : Nat} {v : V} {w : W} {m : M} {A : List Addr}
theorem RepS.apartW (R : RepS T G F H σ δ) (g : Go F H F1 H1) (r : RepW T G H F1 H1 v w) : ApartW T F1 H1 σ δ v w := by
  intro m i l m' u A B e e1 e2 o1 o2 a q z
  subst e
  obtain ⟨A', o, hA⟩ := r
  cases Own.det o1 o
  obtain ⟨u', B', e3, o3, _⟩ := R.own e1
  rw [e2] at e3; cases e3
  cases Own.det o2 (o3.go g)
  exact (o3.mem a z).1 (hA a q)
theorem RepS.freshW (R : RepS T G F H σ δ) (r : RepW T G H F1 H1 v w) : RepW T G G.H0 F1 H1 v w := by
  cases w with
  | cl d => exact r
  | bw m => exact r
  | ow m => exact r
  | fr m => obtain ⟨A, o, hA⟩ := r; exact ⟨A, o, fun a q => Classical.byContradiction fun z => R.th a z (hA a q)⟩
theorem x_pure (h : PE X e (rdE T x)) : PE X e (rdX T (xP x)) := h.mono fun σ H Q h => by
  obtain ⟨G, F, δ, P, R, h, k⟩ := h
  exact ⟨G, F, δ, _, R, h, fun w hw v F1 H1 g r => k w δ hw v F1 H1 g.f (R.go g) (R.freshW r) (R.apartW g r)⟩
theorem tx_pure (h : PT X c (rdT T t)) : PT X c (rdTX T (tP t)) := h.mono fun σ H Q h => by
  obtain ⟨G, F, δ, P, R, h, k⟩ := h
  exact ⟨G, F, δ, _, R, h, fun b hb F1 H1 g => k b δ hb F1 H1 g.f (R.go g)⟩
/-- a new value that no slot has becomes clean -/
theorem RepS.frzW (R : RepS T G F H σ δ) (o : Own T F H v m A) (h0 : ∀ a ∈ A, G.H0 a = none) (ap : ApartW T F H σ δ v (.fr m)) : RepS T G (ext F A H) H σ δ ∧ Same F (ext F A H) ∧ Rep T (ext F A H) v m.toD := by
  have sm : Same F (ext F A H) := ext_same R.ex
  have keep : ∀ {w : V} {m2 : M} {B : List Addr}, Own T F H w m2 B → (∀ a ∈ B, a ∉ A) → Own T (ext F A H) H w m2 B := fun {w m2 B} ob nd => ob.keep sm (fun _ _ => rfl) fun a q n => (ext_out (nd a q)).trans ((ob.mem a q).2 n)
  refine ⟨⟨fun a x h1 => ?_, R.fr, R.th, R.lh, R.f0.trans sm, fun a h1 => ?_, R.len, fun j => ?_, fun j k l1 l2 m1 m2 u w B C ne e1 e2 e3 e4 o1 o2 => ?_⟩, sm, o.frz sm fun a q => ext_in q⟩
  · by_cases q : a ∈ A
    · rw [ext_in q] at h1; exact h1
    · rw [ext_out q] at h1; exact R.ex _ _ h1
  · rw [ext_out fun z => h1 (h0 a z)]; exact R.fn a h1
  · have q := R.sl j
    revert q
    generalize hg : gt δ j = aj
    intro q
    cases aj with
    | non => trivial
    | im d => obtain ⟨w, e1, r⟩ := q; exact ⟨w, e1, r.mono sm⟩
    | bw m2 =>
      obtain ⟨w, B, e1, ob, hb⟩ := q
      exact ⟨w, B, e1, keep ob fun a z z2 => (hb a z).2 (h0 a z2), hb⟩
    | ow l2 m2 =>
      obtain ⟨w, B, e1, ob, hb⟩ := q
      exact ⟨w, B, e1, keep ob fun a z z2 => ap m j l2 m2 w A B rfl hg e1 o ob a z2 z, hb⟩
  · obtain ⟨w1, B1, z1, ob1, _⟩ := R.own e1
    obtain ⟨w2, B2, z2, ob2, _⟩ := R.own e2
    rw [e3] at z1; cases z1
    rw [e4] at z2; cases z2
    cases Own.det o1 (keep ob1 fun a z z2 => ap m j l1 m1 u A B1 rfl e1 e3 o ob1 a z2 z)
    cases Own.det o2 (keep ob2 fun a z z2 => ap m k l2 m2 w A B2 rfl e2 e4 o ob2 a z2 z)
    exact R.dj j k l1 l2 m1 m2 u w _ _ ne e1 e2 e3 e4 ob1 ob2
/-- the value as clean data, if it may be so -/
theorem RepS.clean {d : D} (R : RepS T G F H σ δ) (r : RepW T G G.H0 F H v w) (ap : ApartW T F H σ δ v w) (hd : clW w = some d) : ∃ F', Same F F' ∧ RepS T G F' H σ δ ∧ Rep T F' v d := by
  cases w with
  | cl d' => cases hd; exact ⟨F, Same.refl _, R, r⟩
  | bw m => cases hd
  | ow m => cases hd
  | fr m =>
    cases hd
    obtain ⟨A, o, hA⟩ := r
    obtain ⟨h1, h2, h3⟩ := R.frzW o hA ap
    exact ⟨_, h2, h1, h3⟩
/-! ### statements -/
def aSetX (i : Nat) (a : AX) : AS := fun E δ => a δ fun w δ' => match slotA w with
  | some s => E.nx (δ'.set i s)
  | none => False
def aSetCX (i : Nat) (a : AX) : AS := fun E δ => a δ fun w δ' => match clW w with
  | some d => E.nx (δ'.set i (.im d))
  | none => False
def aDropX (a : AX) : AS := fun E δ => a δ fun _ δ' => E.nx δ'
def aRetX (a : AX) : AS := fun E δ => a δ fun w δ' => match w with
  | .cl d => E.rt (.cl d) δ'
  | .fr m => E.rt (.fr m) δ'
  | _ => False
def aAsgGX (a : AX) (g : AG) : AS := fun E δ => a δ fun w δ' => match clW w with
  | some d => g d δ' E.nx
  | none => False
def aIfX (t : ATX) (s u : AS) : AS := fun E δ => t δ fun b δ' => if b = true then s E δ' else u E δ'
theorem s_setX {y : Str} {pos' : Pos} (hN : X.N.Nodup) (hi : X.N[i]? = some y) (hx : Loc X.env.scope y) (he : PE X e (rdX T xx)) (hs : swapsWith e (some (.Name y pos')) pos.line X.env = pure false := by rfl) (hf : X.fn y = true ∨ X.env.scope.names.lookup y = some .local := by first | exact .inl rfl | exact .inr rfl | assumption) :
    PS X (.Assign [.Name y pos'] e pos) (rdS T (aSetX i xx)) := (ps_set hN hi hx he hs hf).mono fun D' σ H h => by
  obtain ⟨G, F, δ, E, R, h, k⟩ := h
  refine ⟨G, F, δ, _, R, h, fun w δ' hw v F1 H1 sF R' r ap => ?_⟩
  split at hw
  · rename_i s hs2
    refine k.nx _ hw F1 H1 _ sF (R'.put ?_ ?_)
    · cases w with
      | cl d => cases hs2; exact ⟨v, rfl, r⟩
      | fr m => cases hs2; obtain ⟨A, o, hA⟩ := r; exact ⟨v, A, rfl, o, hA⟩
      | bw m => cases hs2; obtain ⟨A, o, hA⟩ := r; exact ⟨v, A, rfl, o, hA⟩
      | ow m => cases hs2
    · intro l m e1 j l' m' w' A B nj e2 e3 o1 o2
      cases w with
      | cl d => cases hs2; cases e1
      | fr m2 => cases hs2; cases e1; exact ap m j l' m' w' A B rfl e2 e3 o1 o2
      | bw m2 => cases hs2; cases e1
      | ow m2 => cases hs2
  · exact hw.elim
theorem s_setCX {y : Str} {pos' : Pos} (hN : X.N.Nodup) (hi : X.N[i]? = some y) (hx : Loc X.env.scope y) (he : PE X e (rdX T xx)) (hs : swapsWith e (some (.Name y pos')) pos.line X.env = pure false := by rfl) (hf : X.fn y = true ∨ X.env.scope.names.lookup y = some .local := by first | exact .inl rfl | exact .inr rfl | assumption) :
    PS X (.Assign [.Name y pos'] e pos) (rdS T (aSetCX i xx)) := (ps_set hN hi hx he hs hf).mono fun D' σ H h => by
  obtain ⟨G, F, δ, E, R, h, k⟩ := h
  refine ⟨G, F, δ, _, R, h, fun w δ' hw v F1 H1 sF R' r ap => ?_⟩
  split at hw
  · rename_i d hd
    obtain ⟨F2, s2, R2, r2⟩ := R'.clean r ap hd
    exact k.nx _ hw F2 H1 _ (sF.trans s2) (R2.put (a := .im d) ⟨v, rfl, r2⟩ fun _ _ e => nomatch e)
  · exact hw.elim
theorem s_exprX (he : PE X e (rdX T xx)) (hs : swapsWith e none pos.line X.env = pure false := by rfl) : PS X (.Expr e pos) (rdS T (aDropX xx)) := (ps_expr he hs).mono fun D σ H h => by
  obtain ⟨G, F, δ, E, R, h, k⟩ := h
  exact ⟨G, F, δ, _, R, h, fun w δ' hw v F1 H1 sF R' r ap => k.nx _ hw F1 H1 _ sF R'⟩
theorem s_retX (he : PE X e (rdX T xx)) : PS X (.Return (some e) pos) (rdS T (aRetX xx)) := (ps_ret he).mono fun D σ H h => by
  obtain ⟨G, F, δ, E, R, h, k⟩ := h
  refine ⟨G, F, δ, _, R, h, fun w δ' hw v F1 H1 sF R' r ap => ?_⟩
  split at hw
  · exact k.rt _ _ hw v F1 H1 σ sF R' r apart_cl
  · exact k.rt _ _ hw v F1 H1 σ sF R' r fun m1 j m2 u B C e1 e2 e3 o1 o2 => ap m1 j true m2 u B C e1 e2 e3 o1 o2
  · exact hw.elim
theorem s_asgGX {ks : List Nat} {tg e : Expr} {a : AG} (he : PE X e (rdX T xx)) (hg : PG X tg (rdG T ks a)) (hs : swapsWithSole [tg] e pos.line X.env = pure false := by rfl) (hw : swappedStores [tg] e X.env = pure none := by rfl)
    (h1 : (assignEach [tg] X.env).map (·.2) = [assign tg X.env] := by rfl) : PS X (.Assign [tg] e pos) (rdS T (aAsgGX xx a)) := (ps_asg he hg hs hw h1).mono fun D σ H h => by
  obtain ⟨G, F, δ, E, R, h, k⟩ := h
  refine ⟨G, F, δ, _, R, h, fun w δ' hw v F1 H1 sF R' r ap => ?_⟩
  split at hw
  · rename_i d hd
    obtain ⟨F2, s2, R2, r2⟩ := R'.clean r ap hd
    exact ⟨G, F2, δ', _, d, R2, r2, hw, fun δ2 q σ' _ R3 => k.nx _ q F2 H1 σ' (sF.trans s2) R3⟩
  · exact hw.elim
theorem s_ifX {a b : List Stmt} {s u : AS} (ht : PT X c (rdTX T tx)) (ha : PSs X a (rdS T s)) (hb : PSs X b (rdS T u)) : PS X (.If c a b pos) (rdS T (aIfX tx s u)) := (ps_if ht ha hb).mono fun D σ H h => by
  obtain ⟨G, F, δ, E, R, h, k⟩ := h
  refine ⟨G, F, δ, _, R, h, fun c δ' hc F1 H1 sF R' => ?_⟩
  cases c with
  | true => exact ⟨G, F1, δ', E, R', hc, k.mono sF⟩
  | false => exact ⟨G, F1, δ', E, R', hc, k.mono sF⟩
/-! ### tests -/
def aBX (a : AX) : ATX := fun δ Q => a δ fun w δ' => match w with
  | .cl (.bl b) => Q b δ'
  | _ => False
def aAndX (t u : ATX) : ATX := fun δ Q => t δ fun c δ' => if c = true then u δ' Q else Q false δ'
def aOrX (t u : ATX) : ATX := fun δ Q => t δ fun c δ' => if c = true then Q true δ' else u δ' Q
def aNotX (t : ATX) : ATX := fun δ Q => t δ fun c δ' => Q (!c) δ'
/-- x op y, y with an effect -/
def aBinX (f : W → W → (W → Prop) → Prop) (a : AE) (b : AX) : AX := fun δ Q => a δ fun u => b δ fun w δ' => match argW u, w with
  | .cl d, .cl z => f (.cl d) (.cl z) fun r => Q r δ'
  | _, _ => False
def aUnX (f : W → (W → Prop) → Prop) (a : AX) : AX := fun δ Q => a δ fun w δ' => match w with
  | .cl z => f (.cl z) fun r => Q r δ'
  | _ => False
theorem tx_val (h : PE X e (rdX T xx)) (he : ∀ whole, isTrue e X.env whole = (do let v ← whole; standAt e.pos; holding [v] (truthy v)) := by intro _; rfl) : PT X e (rdTX T (aBX xx)) := (pt_val h he).mono fun σ H Q h => by
  obtain ⟨G, F, δ, P, R, h, k⟩ := h
  refine ⟨G, F, δ, _, R, h, fun w δ' hw v F1 H1 sF R' r ap => ?_⟩
  split at hw
  · exact ⟨_, rep_bl r, k _ _ hw _ _ sF R'⟩
  · exact hw.elim
theorem wx_and1 (h : PT X c (rdTX T tx)) : PW X (.BoolOp .And [c] pos) (rdTX T tx) := pw_and1 h
theorem wx_or1 (h : PT X c (rdTX T tx)) : PW X (.BoolOp .Or [c] pos) (rdTX T tx) := pw_or1 h
theorem wx_and {b : Expr} {rest : List Expr} (ha : PT X c (rdTX T tx)) (hb : PW X (.BoolOp .And (b :: rest) pos) (rdTX T ux)) : PW X (.BoolOp .And (c :: b :: rest) pos) (rdTX T (aAndX tx ux)) := (pw_and ha hb).mono fun σ H Q h => by
  obtain ⟨G, F, δ, P, R, h, k⟩ := h
  refine ⟨G, F, δ, _, R, h, fun c δ' hc F1 H1 sF R' => ?_⟩
  cases c with
  | true => exact ⟨G, F1, δ', P, R', hc, fun z δ2 hz F2 H2 s2 R2 => k z δ2 hz F2 H2 (sF.trans s2) R2⟩
  | false => exact k _ _ hc _ _ sF R'
theorem wx_or {b : Expr} {rest : List Expr} (ha : PT X c (rdTX T tx)) (hb : PW X (.BoolOp .Or (b :: rest) pos) (rdTX T ux)) : PW X (.BoolOp .Or (c :: b :: rest) pos) (rdTX T (aOrX tx ux)) := (pw_or ha hb).mono fun σ H Q h => by
  obtain ⟨G, F, δ, P, R, h, k⟩ := h
  refine ⟨G, F, δ, _, R, h, fun c δ' hc F1 H1 sF R' => ?_⟩
  cases c with
  | false => exact ⟨G, F1, δ', P, R', hc, fun z δ2 hz F2 H2 s2 R2 => k z δ2 hz F2 H2 (sF.trans s2) R2⟩
  | true => exact k _ _ hc _ _ sF R'
theorem tx_not (h : PT X c (rdTX T tx)) : PT X (.UnaryOp .Not c pos) (rdTX T (aNotX tx)) := (pt_not h).mono fun σ H Q h => by
  obtain ⟨G, F, δ, P, R, h, k⟩ := h
  exact ⟨G, F, δ, _, R, h, fun c δ' hc F1 H1 sF R' => k _ _ hc _ _ sF R'⟩
theorem rd_binX {r : R2} {f : W → W → (W → Prop) → Prop} (hf : Bin2 T r f) {Q : VK} (h : rdX T (aBinX f x yy) σ H Q) : tOp r (rdE T x) (rdX T yy) σ H Q := by
  obtain ⟨G, F, δ, P, R, h, k⟩ := h
  refine ⟨G, F, δ, _, R, h, fun u hu v F1 H1 g r1 => ?_⟩
  obtain ⟨F2, g2, _, _, r2, _⟩ := RepW.arg g r1
  refine ⟨G, F2, δ, _, R.go g2, hu, fun w δ' hw z F3 H3 sF R3 r3 ap => ?_⟩
  split at hw
  · rename_i d zz hd
    rw [hd] at r2
    have r2 : Rep T F3 v d := Rep.mono sF r2
    exact hf G F3 H3 F3 H3 v z (.cl d) (.cl zz) _ Q (Go.refl R3.ex) r2 r3 hw fun y hy v' F4 H4 g4 r4 => k y δ' hy v' F4 H4 ((g2.f.trans sF).trans g4.f) (R3.go g4) (R3.freshW r4) (R3.apartW g4 r4)
  · exact hw.elim
theorem x_cmp {op : CmpOp} {a b : Expr} {r : R2} {f : W → W → (W → Prop) → Prop} (ho : OpR X (compareOp op) r) (hf : Bin2 T r f) (ha : PE X a (rdE T x)) (hb : PE X b (rdX T yy)) (hm : behindInMarks op b = false) : PE X (.Compare a [op] [b] pos) (rdX T (aBinX f x yy)) :=
  (pe_cmpR ho ha hb hm).mono fun _ _ _ h => rd_binX hf h
theorem tx_cmp {op : CmpOp} {a b : Expr} {r : R2} {f : W → W → (W → Prop) → Prop} (ho : OpR X (compareOp op) r) (hf : Bin2 T r f) (ha : PE X a (rdE T x)) (hb : PE X b (rdX T yy)) (hm : behindInMarks op b = false) : PT X (.Compare a [op] [b] pos) (rdTX T (aBX (aBinX f x yy))) :=
  (pt_cmpR ho ha hb hm).mono fun σ H Q h => by
    obtain ⟨G, F, δ, P, R, h, k⟩ := h
    refine rd_binX hf ⟨G, F, δ, _, R, h, fun w δ' hw v F1 H1 sF R' r ap => ?_⟩
    split at hw
    · exact ⟨_, rep_bl r, k _ _ hw _ _ sF R'⟩
    · exact hw.elim
end
/-! ### what is lent -/
/-- from the lent object and the other arguments to what is wanted of the answer and of the object behind the call -/
abbrev LCt := M → List W → (W → M → Prop) → Prop
/-- an argument beside a lent object: clean, or it stands apart -/
def ArgA (T : Tb) (F H : Hp) (A : List Addr) (v : V) : W → Prop
  | .cl d => Rep T F v d
  | .bw m => ∃ B, Own T F H v m B ∧ ∀ a ∈ B, a ∉ A
  | _ => False
inductive ArgsA (T : Tb) (F H : Hp) (A : List Addr) : List V → List W → Prop
  | nil : ArgsA T F H A [] []
  | cons {v : V} {vs : List V} {w : W} {ws : List W} : ArgA T F H A v w → ArgsA T F H A vs ws → ArgsA T F H A (v :: vs) (w :: ws)
def spL (T : Tb) (k : Nat) (c : LCt) : Sp := fun vs H Q _ => ∃ (F : Hp) (us : List V) (v0 : V) (m : M) (A : List Addr) (ws : List W) (P : W → M → Prop), vs = us.insertIdx k v0 ∧ k ≤ us.length ∧ Same F H ∧ ArgsA T F H A us ws ∧ Own T F H v0 m A ∧ c m ws P ∧
  ∀ w m', P w m' → ∀ v F' H' A', Same F F' → Same F' H' → (∀ a, a ∉ A → H a ≠ none → NT H' a → F' a = F a) → (∀ a, a ∉ A → H a ≠ none → H' a = H a) → (∀ a, H a ≠ none → H' a ≠ none) → Own T F' H' v0 m' A' → (∀ a ∈ A', a ∈ A ∨ H a = none) → RepR T H F' H' v w → (∀ m1 B, w = .fr m1 → Own T F' H' v m1 B → ∀ a ∈ B, a ∉ A') → Q v H'
/-- what may be handed on beside a lent object -/
def apW : W → Bool
  | .cl _ => true
  | .bw _ => true
  | _ => false
/-- arguments, one of them a place -/
abbrev AAL := List AV → (List W → Nat → (M → M) → M → Prop) → Prop
def alHere (pl : AP) (es : AA) : AAL := fun δ P => pl δ fun i c m => es δ fun ws => ws.all apW = true ∧ P ws i c m
def alCons (e : AE) (r : AAL) : AAL := fun δ P => e δ fun w => apW (argW w) = true ∧ r δ fun ws i c m => P (argW w :: ws) i c m
/-- what is true of the other arguments before the lent one is told -/
def rdAL (T : Tb) (k : Nat) (a : AAL) : TA := fun σ H Q => ∃ G F δ P, RepS T G F H σ δ ∧ a δ P ∧ ∀ ws i c m, P ws i c m → ∀ us F' H', Go F H F' H' → RepAs T G F' H' us ws → ws.all apW = true → k ≤ us.length → ∀ l m0 v A u B, gt δ i = .ow l m0 → gs σ i = some v → Own T F' H' v m0 A → Sub T F' H' v m0 A u m B c → Q (us.insertIdx k u) H'
def aCallL (c : LCt) (al : AAL) : AX := fun δ Q => al δ fun ws i cx m => c m ws fun w m' => Q w (setP δ i (cx m'))
def aMethL (cn : Nat) (c : LCt) (pl : AP) (es : AA) : AX := fun δ Q => pl δ fun i cx m => match m with
  | .ti c' ms => c' = cn ∧ es δ fun ws => ws.all apW = true ∧ c (.ti c' ms) ws fun w m' => Q w (setP δ i (cx m'))
  | _ => False
section
variable {T : Tb} {X : Cx} {G : Gx} {F F' F1 F2 H H' H1 H2 : Hp} {σ : L2.St} {δ δ' : List AV} {e o : Expr} {es : List Expr} {x : AE} {xs : AA} {pl : AP} {al : AAL} {pos p apos : Pos} {i k n cn : Nat} {v u : V} {w : W} {m m' m0 : M} {A B A' : List Addr} {c : M → M} {l : Bool} {ct : LCt} {f : Addr} {fd : FuncData} {ps : List Str} {s : Str}
theorem argsA_of (hA : ∀ a ∈ A, a ∈ G.L ∨ G.H0 a = none) : ∀ {us : List V} {ws : List W}, RepAs T G F H us ws → ws.all apW = true → ArgsA T F H A us ws
  | _, _, .nil, _ => .nil
  | _, _, .cons (w := w) r t, h => by
    rw [List.all_cons, Bool.and_eq_true] at h
    refine .cons ?_ (argsA_of hA t h.2)
    cases w with
    | cl d => exact r
    | bw m =>
      obtain ⟨B, o, hB⟩ := r
      refine ⟨B, o, fun a q z => ?_⟩
      rcases hA a z with y | y
      · exact (hB a q).1 y
      · exact (hB a q).2 y
    | ow m => cases h.1
    | fr m => cases h.1
/-- new things stand apart from what was there -/
theorem argsA_new (hA : ∀ a ∈ A, H a = none) (g : Go F H F' H') : ∀ {us : List V} {ws : List W}, RepAs T G F H us ws → ws.all apW = true → ArgsA T F' H' A us ws
  | _, _, .nil, _ => .nil
  | _, _, .cons (w := w) r t, h => by
    rw [List.all_cons, Bool.and_eq_true] at h
    refine .cons ?_ (argsA_new hA g t h.2)
    cases w with
    | cl d => exact Rep.mono g.f r
    | bw m =>
      obtain ⟨B, o, hB⟩ := r
      exact ⟨B, o.go g, fun a q z => (o.mem a q).1 (hA a z)⟩
    | ow m => cases h.1
    | fr m => cases h.1
theorem OwS.lend (h : OwS G v A l) : ∀ a ∈ A, a ∈ G.L ∨ G.H0 a = none := by
  unfold OwS at h
  cases l with
  | true => exact (show v = G.r ∧ ∀ a ∈ A, a ∈ G.L ∨ G.H0 a = none from h).2
  | false => exact fun a q => .inr ((show ∀ a ∈ A, G.H0 a = none from h) a q)
theorem RepS.lendable (R : RepS T G F H σ δ) (g : Go F H F1 H1) (e1 : gt δ i = .ow l m0) (e2 : gs σ i = some v) (o : Own T F1 H1 v m0 A) (S : Sub T F1 H1 v m0 A u m B c) : ∀ a ∈ B, a ∈ G.L ∨ G.H0 a = none := by
  obtain ⟨v', A', q1, q2, q3⟩ := R.own e1
  rw [e2] at q1; cases q1
  cases Own.det o (q2.go g)
  exact fun a q => q3.lend a (S.sub a q)
theorem al_here (hp : PE X e (rdP T pl)) (ha : PA X es (rdA T xs)) (hs : starEach (e :: es) X.env = (false, eval e X.env) :: starEach es X.env := by rfl) : PA X (e :: es) (rdAL T 0 (alHere pl xs)) := (pa_cons hp ha hs).mono fun σ H Q h => by
  obtain ⟨G, F, δ, P, R, h, kk⟩ := h
  refine ⟨G, F, δ, _, R, h, fun i c m hw F1 H1 g l m0 v A u B e1 e2 o S => ?_⟩
  refine ⟨G, F1, δ, _, R.go g, hw, fun ws ⟨hap, hws⟩ vs F2 H2 g2 r2 => ?_⟩
  exact kk _ _ _ _ hws vs F2 H2 (g.trans g2) r2 hap (Nat.zero_le _) l m0 v A u B e1 e2 (o.go g2) (S.go g2)
theorem al_cons (he : PE X e (rdE T x)) (ha : PA X es (rdAL T k al)) (hs : starEach (e :: es) X.env = (false, eval e X.env) :: starEach es X.env := by rfl) : PA X (e :: es) (rdAL T (k + 1) (alCons x al)) := (pa_cons he ha hs).mono fun σ H Q h => by
  obtain ⟨G, F, δ, P, R, h, kk⟩ := h
  refine ⟨G, F, δ, _, R, h, fun w ⟨hap, hw⟩ v F1 H1 g r => ?_⟩
  obtain ⟨F2, g2, _, _, r2, _⟩ := RepW.arg g r
  refine ⟨G, F2, δ, _, R.go g2, hw, fun ws i c m hP us F3 H3 g3 r3 hall hk l m0 v0 A u B e1 e2 o S => ?_⟩
  exact kk _ _ _ _ hP (v :: us) F3 H3 (g2.trans g3) (.cons (r2.toA.go g3) r3) (by rw [List.all_cons, hap, hall]; rfl) (Nat.succ_le_succ hk) l m0 v0 A u B e1 e2 o S
/-- behind a call that was lent the place -/
theorem lent_end {m1 : M} (R : RepS T G F H σ δ) (g : Go F H F1 H1) (e1 : gt δ i = .ow l m0) (e2 : gs σ i = some v) (o : Own T F1 H1 v m0 A) (S : Sub T F1 H1 v m0 A u m B c) {z : V} (sF : Same F1 F2) (ex : Same F2 H2) (nF : ∀ a, a ∉ B → H1 a ≠ none → NT H2 a → F2 a = F1 a) (fr : ∀ a, a ∉ B → H1 a ≠ none → H2 a = H1 a) (th : ∀ a, H1 a ≠ none → H2 a ≠ none)
    (o2 : Own T F2 H2 u m1 A') (hA' : ∀ a ∈ A', a ∈ B ∨ H1 a = none) (r : RepR T H1 F2 H2 z w) (ap : ∀ m1 B, w = .fr m1 → Own T F2 H2 z m1 B → ∀ a ∈ B, a ∉ A') :
    RepS T G F2 H2 σ (setP δ i (c m1)) ∧ RepW T G G.H0 F2 H2 z w ∧ ApartW T F2 H2 σ (setP δ i (c m1)) z w := by
  have R1 := R.go g
  have hB : ∀ a ∈ A', a ∈ B ∨ H a = none := fun a q => (hA' a q).imp id fun z => g.h.free z
  have R2 := R.plc g e1 e2 o S ex sF nF fr th o2 hB
  refine ⟨R2, ?_, ?_⟩
  · cases w with
    | cl d => exact r
    | bw m => exact r.elim
    | ow m => exact r.elim
    | fr m => obtain ⟨C, oc, hC⟩ := r; exact ⟨C, oc, fun a q => Classical.byContradiction fun z => R1.th a z (hC a q)⟩
  · intro mm j l' m' u' C C' ew ej es oC oC' a q z
    subst ew
    obtain ⟨C0, oc, hC⟩ := r
    cases Own.det oC oc
    by_cases hj : i = j
    · subst hj
      have ei : gt (setP δ i (c m1)) i = .ow l (c m1) := by
        unfold setP
        rw [e1]
        show gt (δ.set i (.ow l (c m1))) i = _
        rw [gt_set (gt_lt (by rw [e1]; simp)), if_pos rfl]
      rw [ei] at ej; cases ej
      rw [e2] at es; cases es
      obtain ⟨A2, oA2, hA2⟩ := S.re (fun a => a ∈ A' ∧ H1 a = none) F2 H2 m1 A' (fun a n q2 => (o.mem a q2).1 n.2) sF nF fr o2 fun a q => (hA' a q).imp id fun z => ⟨q, z⟩
      cases Own.det oC' oA2
      rcases hA2 a z with y | y
      · exact (o.mem a y).1 (hC a q)
      · exact ap mm _ rfl oC a q y.1
    · have ejj : gt (setP δ i (c m1)) j = gt δ j := by
        unfold setP
        rw [e1]
        show gt (δ.set i (.ow l (c m1))) j = _
        rw [gt_set (gt_lt (by rw [e1]; simp)), if_neg hj]
      rw [ejj] at ej
      obtain ⟨u2, D0, e3, oD, _⟩ := R1.own ej
      rw [es] at e3; cases e3
      have dd := R1.dj i j l l' m0 m' v u' A D0 hj e1 ej e2 es o oD
      have oD2 : Own T F2 H2 u' m' D0 := oD.keep sF (fun a q => fr a (fun z => dd a (S.sub a z) q) (oD.mem a q).1) fun a q n => (nF a (fun z => dd a (S.sub a z) q) (oD.mem a q).1 (n.at (fr a (fun z => dd a (S.sub a z) q) (oD.mem a q).1))).trans ((oD.mem a q).2 n)
      cases Own.det oC' oD2
      exact (oD.mem a z).1 (hC a q)
theorem rd_callL {E : XK} {Q : VK} (h : rdX T (aCallL ct al) σ H Q) : tCall (spL T k ct) [] E (rdAL T k al) σ H Q := by
  obtain ⟨G, F, δ, P, R, h, kk⟩ := h
  refine ⟨G, F, δ, _, R, h, fun ws i c m hc us F1 H1 g r hall hk l m0 v A u B e1 e2 o S => ?_⟩
  show spL T k ct (us.insertIdx k u ++ []) H1 Q E
  rw [List.append_nil]
  refine ⟨F1, us, u, m, B, ws, _, rfl, hk, g.ex, argsA_of (R.lendable g e1 e2 o S) r hall, S.ow, hc, fun w m' hP z F2 H2 A' sF ex nF fr th o2 hA' rz ap => ?_⟩
  obtain ⟨q1, q2, q3⟩ := lent_end R g e1 e2 o S sF ex nF fr th o2 hA' rz ap
  exact kk _ _ hP z F2 H2 (g.f.trans sF) q1 q2 q3
theorem e_callL (Fn : FnOk X.prog X.w X.K X.mg X.base CX0 n f fd ps (spL T k ct)) (hr : Room n X.A) (hg : Gl X s) (hm : X.mg s = some (.ref f)) (hk : PySem.W.keepIn X.K (.ref f) = true) (hb : Binds X.K fd ps [])
    (ha : PA X (e :: es) (rdAL T k al)) (hdb : (s == ("__debug__" : Str)) = false := by decide) (he : starEach (e :: es) X.env = (false, eval e X.env) :: starEach es X.env := by rfl) (hpl : (backTo pos (starEach es X.env)).any (·.1) = false := by rfl) :
    PE X (.Call (.Name s p) (e :: es) [] pos) (rdX T (aCallL ct al)) :=
  (pe_call Fn hr hg hm hk hb .nil (E := E0) pass0 ha hdb he hpl).mono fun _ _ _ h => rd_callL h
theorem e_methL {mn : Str} {a : Expr} {plS : Sem Bool} (hC : Cls X.K (T.cl cn)) (hm : Meth X.K (T.cl cn) mn f) (Fn : FnOk X.prog X.w X.K X.mg X.base CX0 n f fd ps (spL T 0 ct)) (hr : Room n X.A) (hb : Binds X.K fd ps []) (hno : mn ∉ T.fs cn) (ho : PE X o (rdP T pl)) (ha : PA X (a :: es) (rdA T xs))
    (hst : starEach (a :: es) X.env = (false, eval a X.env) :: starEach es X.env := by rfl) (hpl : (backTo pos (starEach es X.env)).any (·.1) = false := by rfl)
    (ht : eval (.Call (.Attribute o mn apos) (a :: es) [] pos) X.env = (do
      let ov ← eval o X.env
      standAt apos.atName
      let (f, first) ← holding [ov] (getMethod ov mn plS)
      callWith pos f first (backTo pos (starEach (a :: es) X.env)) (backToKw pos (keywordEach [] X.env))) := by rfl) :
    PE X (.Call (.Attribute o mn apos) (a :: es) [] pos) (rdX T (aMethL cn ct pl xs)) :=
  (pe_meth (E := E0) ho hC hm Fn hr hb .nil pass0 ha hst hpl ht).mono fun σ H Q h => by
    obtain ⟨G, F, δ, P, R, h, kk⟩ := h
    refine ⟨G, F, δ, _, R, h, fun i c m hw F1 H1 g l m0 v A u B e1 e2 o S => ?_⟩
    split at hw
    · rename_i c' ms
      obtain ⟨rfl, hw⟩ := hw
      obtain ⟨p, dx, vs, C, rfl, _, hp, _⟩ := own_ti S.ow
      refine ⟨p, dx, _, rfl, hp, lookup_zip_none hno, ?_⟩
      refine ⟨G, F1, δ, _, R.go g, hw, fun ws ⟨hall, hws⟩ us F2 H2 g2 r2 => ?_⟩
      show spL T 0 ct (.ref p :: (us ++ [])) H2 Q _
      rw [List.append_nil]
      refine ⟨F2, us, .ref p, _, B, ws, _, rfl, Nat.zero_le _, g2.ex, argsA_of (R.lendable g e1 e2 o S) r2 hall, (S.go g2).ow, hws, fun w m' hP z F3 H3 A' sF ex nF fr th o2 hA' rz ap => ?_⟩
      obtain ⟨q1, q2, q3⟩ := lent_end R (g.trans g2) e1 e2 (o.go g2) (S.go g2) sF ex nF fr th o2 hA' rz ap
      exact kk _ _ hP z F3 H3 ((g.trans g2).f.trans sF) q1 q2 q3
    · exact hw.elim
theorem e_methL0 {mn : Str} {plS : Sem Bool} (hC : Cls X.K (T.cl cn)) (hm : Meth X.K (T.cl cn) mn f) (Fn : FnOk X.prog X.w X.K X.mg X.base CX0 n f fd ps (spL T 0 ct)) (hr : Room n X.A) (hb : Binds X.K fd ps []) (hno : mn ∉ T.fs cn) (ho : PE X o (rdP T pl))
    (ht : eval (.Call (.Attribute o mn apos) [] [] pos) X.env = (do
      let ov ← eval o X.env
      standAt apos.atName
      let (f, first) ← holding [ov] (getMethod ov mn plS)
      callWith pos f first (backTo pos (starEach [] X.env)) (backToKw pos (keywordEach [] X.env))) := by rfl) :
    PE X (.Call (.Attribute o mn apos) [] [] pos) (rdX T (aMethL cn ct pl aNil)) :=
  (pe_meth0 (E := E0) ho hC hm Fn hr hb .nil pass0 ht).mono fun σ H Q h => by
    obtain ⟨G, F, δ, P, R, h, kk⟩ := h
    refine ⟨G, F, δ, _, R, h, fun i c m hw F1 H1 g l m0 v A u B e1 e2 o S => ?_⟩
    split at hw
    · rename_i c' ms
      obtain ⟨rfl, hw⟩ := hw
      obtain ⟨p, dx, vs, C, rfl, _, hp, _⟩ := own_ti S.ow
      refine ⟨p, dx, _, rfl, hp, lookup_zip_none hno, ?_⟩
      have hw : ct (.ti c' ms) [] fun w m' => P w (setP δ i (c m')) := hw.2
      show spL T 0 ct (.ref p :: ([] ++ [])) H1 Q E0
      refine ⟨F1, [], .ref p, _, B, [], _, rfl, Nat.zero_le _, g.ex, .nil, S.ow, hw, fun w m' hP z F3 H3 A' sF ex nF fr th o2 hA' rz ap => ?_⟩
      obtain ⟨q1, q2, q3⟩ := lent_end R g e1 e2 o S sF ex nF fr th o2 hA' rz ap
      exact kk _ _ hP z F3 H3 (g.f.trans sF) q1 q2 q3
    · exact hw.elim
end
/-! ### a new object is lent -/
/-- arguments, the last of them a new object -/
abbrev AAN := List AV → (List W → M → Prop) → Prop
def anHere (e : AE) : AAN := fun δ P => e δ fun w => match w with
  | .fr m => P [] m
  | _ => False
def anCons (e : AE) (r : AAN) : AAN := fun δ P => e δ fun w => apW (argW w) = true ∧ r δ fun ws m => P (argW w :: ws) m
def rdAN (T : Tb) (k : Nat) (a : AAN) : TA := fun σ H Q => ∃ G F δ P, RepS T G F H σ δ ∧ a δ P ∧ ∀ ws m, P ws m → ∀ us u F' H' A, Go F H F' H' → RepAs T G F' H' us ws → ws.all apW = true → us.length = k → Own T F' H' u m A → (∀ a ∈ A, H a = none) → (∀ w ∈ ws, apW w = true) → ArgsA T F' H' A us ws → Q (us.insertIdx k u) H'
def aCallN (c : LCt) (al : AAN) : AE := fun δ Q => al δ fun ws m => c m ws fun w _ => Q w
section
variable {T : Tb} {X : Cx} {G : Gx} {F F' F1 F2 H H' H1 H2 : Hp} {σ : L2.St} {δ δ' : List AV} {e o : Expr} {es : List Expr} {x : AE} {an : AAN} {pos p : Pos} {k n : Nat} {ct : LCt} {f : Addr} {fd : FuncData} {ps : List Str} {s : Str}
theorem an_here (he : PE X e (rdE T x)) (hs : starEach [e] X.env = (false, eval e X.env) :: starEach [] X.env := by rfl) : PA X [e] (rdAN T 0 (anHere x)) := (pa_cons he pa_nil hs).mono fun σ H Q h => by
  obtain ⟨G, F, δ, P, R, h, kk⟩ := h
  refine ⟨G, F, δ, _, R, h, fun w hw v F1 H1 g r => ?_⟩
  split at hw
  · rename_i m
    obtain ⟨A, o, hA⟩ := r
    exact kk _ _ hw [] v F1 H1 A g .nil rfl rfl o hA (fun w q => nomatch q) .nil
  · exact hw.elim
theorem an_cons (he : PE X e (rdE T x)) (ha : PA X es (rdAN T k an)) (hs : starEach (e :: es) X.env = (false, eval e X.env) :: starEach es X.env := by rfl) : PA X (e :: es) (rdAN T (k + 1) (anCons x an)) := (pa_cons he ha hs).mono fun σ H Q h => by
  obtain ⟨G, F, δ, P, R, h, kk⟩ := h
  refine ⟨G, F, δ, _, R, h, fun w ⟨hap, hw⟩ v F1 H1 g r => ?_⟩
  obtain ⟨F2, g2, _, _, r2, _⟩ := RepW.arg g r
  refine ⟨G, F2, δ, _, R.go g2, hw, fun ws m hP us u F3 H3 A g3 r3 hall hk o hA hws har => ?_⟩
  have r4 : RepAs T G F2 H1 [v] [argW w] := .cons r2.toA .nil
  have a1 := argsA_new (A := A) hA g3 r4 (by rw [List.all_cons, hap]; rfl)
  refine kk _ _ hP (v :: us) u F3 H3 A (g2.trans g3) (.cons (r2.toA.go g3) r3) (by rw [List.all_cons, hap, hall]; rfl) (by rw [List.length_cons, hk]) o (fun a q => g2.h.free (hA a q)) (fun w' q => ?_) ?_
  · rcases List.mem_cons.mp q with q | q
    · rw [q]; exact hap
    · exact hws w' q
  · cases a1 with
    | cons q t => exact .cons q har
theorem e_callN (Fn : FnOk X.prog X.w X.K X.mg X.base CX0 n f fd ps (spL T k ct)) (hr : Room n X.A) (hg : Gl X s) (hm : X.mg s = some (.ref f)) (hk : PySem.W.keepIn X.K (.ref f) = true) (hb : Binds X.K fd ps [])
    (ha : PA X (e :: es) (rdAN T k an)) (hdb : (s == ("__debug__" : Str)) = false := by decide) (he : starEach (e :: es) X.env = (false, eval e X.env) :: starEach es X.env := by rfl) (hpl : (backTo pos (starEach es X.env)).any (·.1) = false := by rfl) :
    PE X (.Call (.Name s p) (e :: es) [] pos) (rdE T (aCallN ct an)) :=
  (pe_call Fn hr hg hm hk hb .nil (E := E0) pass0 ha hdb he hpl).mono fun σ H Q h => by
    obtain ⟨G, F, δ, P, R, h, kk⟩ := h
    refine ⟨G, F, δ, _, R, h, fun ws m hc us u F1 H1 A g r hall hk o hA hws har => ?_⟩
    show spL T k ct (us.insertIdx k u ++ []) H1 Q E0
    rw [List.append_nil]
    refine ⟨F1, us, u, m, A, ws, _, rfl, by omega, g.ex, har, o, hc, fun w m' hP z F2 H2 A' sF ex nF fr th o2 hA' rz ap => ?_⟩
    have notA : ∀ a, H a ≠ none → a ∉ A := fun a h1 q => h1 (hA a q)
    refine kk _ hP z F2 H2 ⟨fun a x e => ?_, g.f.trans sF, ex, fun a ha => ?_⟩ ?_
    · have h1 : H a ≠ none := by rw [e]; simp
      rw [fr a (notA a h1) (Same.nn g.h h1)]; exact g.h _ _ e
    · exact fun na => (nF a (notA a ha) (Same.nn g.h ha) ((Same.nt g.h ha na).at (fr a (notA a ha) (Same.nn g.h ha)))).trans (g.n a ha na)
    · cases w with
      | cl d => exact rz
      | bw m => exact rz.elim
      | ow m => exact rz.elim
      | fr m => obtain ⟨C, oc, hC⟩ := rz; exact ⟨C, oc, fun a q => g.h.free (hC a q)⟩
end
/-! ### own things handed on as clean data, to a def whose answer holds none of them -/
mutual
/-- no list, dict or instance within -/
def flatD : D → Bool
  | .tup ds => flatDs ds
  | .lst _ => false
  | .ins _ _ => false
  | .dct _ _ _ => false
  | .scr _ => false
  | .nd _ => false
  | _ => true
def flatDs : List D → Bool
  | [] => true
  | d :: ds => flatD d && flatDs ds
end
def flatW : W → Bool
  | .cl d => flatD d
  | .fr (.fl ds) => flatDs ds
  | _ => false
def clAll : W → W
  | .cl d => .cl d
  | .bw m => .cl m.toD
  | .ow m => .cl m.toD
  | .fr m => .cl m.toD
def clAlls : List W → List W
  | [] => []
  | w :: ws => clAll w :: clAlls ws
theorem clAlls_map : ∀ ws : List W, clAlls ws = ws.map clAll
  | [] => rfl
  | w :: ws => by rw [clAlls, clAlls_map ws]; rfl
def aCallF (c : Ct) (es : AA) : AE := fun δ Q => es δ fun ws => c (clAlls ws) fun w => flatW w = true ∧ Q w
section
variable {T : Tb} {X : Cx} {G : Gx} {F F' F1 F2 H H' : Hp} {A : List Addr}
mutual
theorem flat_rep : ∀ {v : V} {d : D}, flatD d = true → Rep T F v d → (∀ a vs, F a = some (.tup vs) → F' a = some (.tup vs)) → Rep T F' v d
  | _, _, _, .non, _ => .non
  | _, _, _, .bl b, _ => .bl b
  | _, _, _, .int b, _ => .int b
  | _, _, _, .str b, _ => .str b
  | _, _, h, .tup q r, k => .tup (k _ _ q) (flat_reps (by simpa [flatD] using h) r k)
  | _, _, h, .lst _ _, _ => by simp [flatD] at h
  | _, _, h, .scr _, _ => by simp [flatD] at h
  | _, _, h, .ins _ _ _, _ => by simp [flatD] at h
  | _, _, h, .dct _ _ _, _ => by simp [flatD] at h
  | _, _, h, .nd _ _ _, _ => by simp [flatD] at h
theorem flat_reps : ∀ {vs : List V} {ds : List D}, flatDs ds = true → Reps T F vs ds → (∀ a vs, F a = some (.tup vs) → F' a = some (.tup vs)) → Reps T F' vs ds
  | _, _, _, .nil, _ => .nil
  | _, d :: ds, h, .cons r t, k => by
    have h' : flatD d = true ∧ flatDs ds = true := by simpa [flatDs] using h
    exact .cons (flat_rep h'.1 r k) (flat_reps h'.2 t k)
end
/-- all arguments as clean data: where their own objects stand -/
theorem args_clean (ex : Same F H) : ∀ {us : List V} {ws : List W}, RepAs T G F H us ws → ∃ A : List Addr, (∀ a ∈ A, H a ≠ none ∧ (NT H a → F a = none)) ∧ ∀ F', Same F F' → (∀ a ∈ A, F' a = H a) → RepAs T G F' H us (ws.map clAll)
  | _, _, .nil => ⟨[], fun a q => (nomatch q), fun _ _ _ => RepAs.nil⟩
  | _, _, .cons (w := w) r t => by
    obtain ⟨A, h1, h2⟩ := args_clean ex t
    have own : ∀ {v : V} {m : M} {B : List Addr}, Own T F H v m B → clAll w = .cl m.toD → ∃ A' : List Addr, (∀ a ∈ A', H a ≠ none ∧ (NT H a → F a = none)) ∧ ∀ F', Same F F' → (∀ a ∈ A', F' a = H a) → RepAs T G F' H (v :: _) (clAll w :: _) := fun {v m B} o e => by
      refine ⟨B ++ A, fun a q => ?_, fun F' sF hF => ?_⟩
      · rcases List.mem_append.mp q with q | q
        · exact o.mem a q
        · exact h1 a q
      · rw [e]
        exact .cons (o.frz sF fun a q => hF a (List.mem_append_left _ q)) (h2 F' sF fun a q => hF a (List.mem_append_right _ q))
    cases w with
    | cl d => exact ⟨A, h1, fun F' sF hF => .cons (Rep.mono sF r) (h2 F' sF hF)⟩
    | bw m => obtain ⟨B, o, _⟩ := r; exact own o rfl
    | ow m => obtain ⟨B, o⟩ := r; exact own o rfl
    | fr m => exact r.elim
open Classical in
noncomputable def cutA (F H : Hp) (A : List Addr) : Hp := fun a => if a ∈ A ∧ NT H a then none else F a
theorem rd_callF {c : Ct} {xs : AA} {E : XK} {σ : L2.St} {Q : VK} (h : rdE T (aCallF c xs) σ H Q) : tCall (spC T c) [] E (rdA T xs) σ H Q := by
  obtain ⟨G, F, δ, P, R, h, k⟩ := h
  refine ⟨G, F, δ, _, R, h, fun ws hw vs F1 H1 g r => ?_⟩
  show spC T c (vs ++ []) H1 Q E
  rw [List.append_nil]
  obtain ⟨A, hA, hr⟩ := args_clean g.ex r
  have sm : Same F1 (ext F1 A H1) := ext_same g.ex
  have ex1 : Same (ext F1 A H1) H1 := fun a o e => by
    by_cases q : a ∈ A
    · rw [ext_in q] at e; exact e
    · rw [ext_out q] at e; exact g.ex _ _ e
  rw [clAlls_map] at hw
  refine ⟨G, ext F1 A H1, ws.map clAll, _, ex1, hr _ sm fun a q => ext_in q, hw, fun w ⟨hf, hP⟩ v F2 H2 g2 r2 => ?_⟩
  have out : ∀ {a}, ¬ (a ∈ A ∧ NT H1 a) → cutA F2 H1 A a = F2 a := fun h => if_neg h
  have tups : ∀ a vs, F2 a = some (.tup vs) → cutA F2 H1 A a = some (.tup vs) := fun a vs e => by
    have : ¬ (a ∈ A ∧ NT H1 a) := fun ⟨q, nt⟩ => by
      have h1 := g2.n a (hA a q).1 nt
      rw [ext_in q] at h1
      rw [h1] at e
      exact nt vs e
    rw [out this]; exact e
  have g3 : Go F1 H1 (cutA F2 H1 A) H2 := by
    refine ⟨g2.h, fun a o e => ?_, fun a o e => ?_, fun a ha na => ?_⟩
    · have : ¬ (a ∈ A ∧ NT H1 a) := fun ⟨q, nt⟩ => by rw [(hA a q).2 nt] at e; cases e
      rw [out this]; exact g2.f _ _ (sm _ _ e)
    · by_cases q : a ∈ A ∧ NT H1 a
      · have : cutA F2 H1 A a = none := if_pos q
        rw [this] at e; cases e
      · rw [out q] at e; exact g2.ex _ _ e
    · by_cases q : a ∈ A
      · rw [(hA a q).2 na]; exact if_pos ⟨q, na⟩
      · rw [out fun z => q z.1, g2.n a ha na, ext_out q]
  refine k w hP v (cutA F2 H1 A) H2 (g.trans g3) ?_
  cases w with
  | cl d => exact flat_rep hf r2 tups
  | bw m => cases hf
  | ow m => cases hf
  | fr m =>
    cases m with
    | fl ds =>
      obtain ⟨B, o, hB⟩ := r2
      obtain ⟨p, us, rfl, rfl, hp, hfp, rr⟩ := own_fl o
      refine ⟨[p], .fl hp ?_ (flat_reps hf rr tups), fun a q => g.h.free (hB a q)⟩
      unfold cutA
      split
      · rfl
      · exact hfp
    | cl _ => cases hf
    | fd _ _ _ => cases hf
    | tl _ => cases hf
    | td _ _ _ => cases hf
    | ti _ _ => cases hf
    | tp _ => cases hf
    | nd _ => cases hf
variable {k : Nat} {f C : Addr} {fd : FuncData} {ps : List Str} {x : Str} {p pos apos : Pos} {e o : Expr} {es : List Expr} {c : Ct} {xs : AA}
theorem e_callF (Fn : FnOk X.prog X.w X.K X.mg X.base CX0 k f fd ps (spC T c)) (hr : Room k X.A) (hg : Gl X x) (hm : X.mg x = some (.ref f)) (hk : PySem.W.keepIn X.K (.ref f) = true) (hb : Binds X.K fd ps [])
    (ha : PA X (e :: es) (rdA T xs)) (hdb : (x == ("__debug__" : Str)) = false := by decide) (he : starEach (e :: es) X.env = (false, eval e X.env) :: starEach es X.env := by rfl) (hpl : (backTo pos (starEach es X.env)).any (·.1) = false := by rfl) :
    PE X (.Call (.Name x p) (e :: es) [] pos) (rdE T (aCallF c xs)) :=
  (pe_call Fn hr hg hm hk hb .nil (E := E0) pass0 ha hdb he hpl).mono fun _ _ _ h => rd_callF h
end
def startL (n k : Nat) (m : M) (ws : List W) : List AV := (ws.map avOf).insertIdx k (.ow true m) ++ List.replicate (n - (ws.length + 1)) .non
section
variable {T : Tb} {F H : Hp} {c : LCt} {k n : Nat} {f : Addr} {fd : FuncData} {P : Program} {wd : World} {K : PySem.W.Frag} {mg : Str → Option Value} {base : Heap}
theorem ArgsA.length {A : List Addr} : ∀ {us : List V} {ws : List W}, ArgsA T F H A us ws → us.length = ws.length
  | _, _, .nil => rfl
  | _, _, .cons _ t => by simp [ArgsA.length t]
theorem ArgsA.get {A : List Addr} : ∀ {us : List V} {ws : List W} {i : Nat} {w : W}, ArgsA T F H A us ws → ws[i]? = some w → ∃ v, us[i]? = some v ∧ ArgA T F H A v w
  | _, _, _, _, .nil, h => by simp at h
  | _, _, 0, _, .cons r _, h => by simp at h; subst h; exact ⟨_, rfl, r⟩
  | _, _, i + 1, _, .cons _ t, h => by simpa using ArgsA.get (i := i) t (by simpa using h)
theorem repS_startL {N : Nat} {us : List V} {ws : List W} {v0 : V} {m : M} {A : List Addr} (sm : Same F H) (r : ArgsA T F H A us ws) (o : Own T F H v0 m A) (hk : k ≤ us.length) (hN : ws.length + 1 ≤ N) (Nm : List Str) (hNm : Nm.length = N) :
    RepS T ⟨H, F, A, v0⟩ F H (L2.start Nm (us.insertIdx k v0)) (startL N k m ws) := by
  have hl := r.length
  have hul : (us.insertIdx k v0).length = us.length + 1 := by rw [List.length_insertIdx, if_pos hk]
  have hdl : ((ws.map avOf).insertIdx k (.ow true m)).length = ws.length + 1 := by rw [List.length_insertIdx, if_pos (by rw [List.length_map]; omega), List.length_map]
  have hst : ∀ i, gs (L2.start Nm (us.insertIdx k v0)) i = (us.insertIdx k v0)[i]? := fun i => by
    unfold gs L2.start
    rw [List.getD_eq_getElem?_getD]
    by_cases hi : i < (us.insertIdx k v0).length
    · rw [List.getElem?_append_left (by simpa using hi), List.getElem?_map]
      cases (us.insertIdx k v0)[i]? <;> rfl
    · rw [List.getElem?_append_right (by simpa using hi), List.getElem?_replicate, List.getElem?_eq_none_iff.mpr (by omega)]
      split <;> rfl
  have hgt : ∀ i, gt (startL N k m ws) i = (((ws.map avOf).insertIdx k (.ow true m))[i]?).getD .non := fun i => by
    unfold gt startL
    rw [List.getD_eq_getElem?_getD]
    by_cases hi : i < ((ws.map avOf).insertIdx k (.ow true m)).length
    · rw [List.getElem?_append_left hi]
    · rw [List.getElem?_append_right (by omega), List.getElem?_replicate, List.getElem?_eq_none_iff.mpr (show ((ws.map avOf).insertIdx k (.ow true m)).length ≤ i by omega)]
      split <;> rfl
  have at_ : ∀ i, (i = k ∧ gs (L2.start Nm (us.insertIdx k v0)) i = some v0 ∧ gt (startL N k m ws) i = .ow true m) ∨ (i ≠ k ∧ ((gt (startL N k m ws) i = .non) ∨ ∃ u w, gs (L2.start Nm (us.insertIdx k v0)) i = some u ∧ gt (startL N k m ws) i = avOf w ∧ ArgA T F H A u w)) := fun i => by
    rw [hst, hgt, List.getElem?_insertIdx, List.getElem?_insertIdx, List.length_map]
    by_cases h1 : i < k
    · rw [if_pos h1, if_pos h1, List.getElem?_map]
      refine .inr ⟨by omega, ?_⟩
      cases e : ws[i]? with
      | none => exact .inl rfl
      | some d =>
        obtain ⟨u, hu, ru⟩ := r.get e
        exact .inr ⟨u, d, hu, rfl, ru⟩
    · rw [if_neg h1, if_neg h1]
      by_cases h2 : i = k
      · rw [if_pos h2, if_pos h2, if_pos (by omega), if_pos (by omega)]
        exact .inl ⟨h2, rfl, rfl⟩
      · rw [if_neg h2, if_neg h2, List.getElem?_map]
        refine .inr ⟨h2, ?_⟩
        cases e : ws[i - 1]? with
        | none => exact .inl rfl
        | some d =>
          obtain ⟨u, hu, ru⟩ := r.get e
          exact .inr ⟨u, d, hu, rfl, ru⟩
  have nown : ∀ {w : W} {u : V} {l : Bool} {m' : M}, ArgA T F H A u w → avOf w ≠ .ow l m' := fun {w u l m'} q e => by cases w <;> cases e
  refine ⟨sm, fun a o h _ => h, fun a h => h, fun a h => (o.mem a h).1, Same.refl _, fun a _ _ _ => rfl, ?_, fun i => ?_, fun i j l l' m1 m2 u w A1 B1 ne e1 e2 => ?_⟩
  · unfold startL L2.start
    rw [List.length_append, List.length_replicate, hdl, List.length_append, List.length_replicate, List.length_map, hul, hNm, hl]
  · rcases at_ i with ⟨_, e1, e2⟩ | ⟨_, e2 | ⟨u, w, e1, e2, ru⟩⟩
    · rw [e1, e2]; exact ⟨v0, A, rfl, o, rfl, fun a q => .inl q⟩
    · rw [e2]; trivial
    · rw [e1, e2]
      cases w with
      | cl d => exact ⟨u, rfl, ru⟩
      | bw m => obtain ⟨B, ob, hB⟩ := ru; exact ⟨u, B, rfl, ob, fun a q => ⟨hB a q, (ob.mem a q).1⟩⟩
      | ow m => exact ru.elim
      | fr m => exact ru.elim
  · rcases at_ i with ⟨h1, _, _⟩ | ⟨_, q | ⟨_, _, _, q, ra⟩⟩
    · rcases at_ j with ⟨h2, _, _⟩ | ⟨_, q | ⟨_, _, _, q, ra⟩⟩
      · exact absurd (h1.trans h2.symm) ne
      · rw [q] at e2; cases e2
      · rw [q] at e2; exact absurd e2 (nown ra)
    · rw [q] at e1; cases e1
    · rw [q] at e1; exact absurd e1 (nown ra)
/-- THE RULE for a def that is lent an object -/
theorem fn_okL {y qual : Str} {st : Stmt} {N ps : List Str} {a : AS} (Fn : Fun K y qual st f fd) (S : FnScope N ps (defScope st)) (len : ∀ m ws P, c m ws P → ws.length + 1 = ps.length) (hN : ps.length ≤ N.length)
    (hd : ∀ (cdv : Value) (A : Around) (outer : List Env) (s : Shared) (H : Hp) (E : XK), Room n (A.deeper (envOfC qual (defScope st) s.heap.objs.size f cdv)) →
      PSs (cxOf CX0 P wd K mg base N qual (defScope st) f cdv A outer s H E).nox (defBody st) (rdS T a))
    (hw : ∀ m ws P, c m ws P → a { nx := fun δ => ∃ m', gt δ k = .ow true m' ∧ P (.cl .non) m', rt := fun w δ => ∃ m', gt δ k = .ow true m' ∧ P w m' } (startL N.length k m ws)) : FnOk P wd K mg base CX0 (n + 1) f fd ps (spL T k c) := by
  refine Fn.ok S (fun vs H Q E h => ?_) (fun cdv A outer s H vs Q E hr h => ?_)
  · obtain ⟨F, us, v0, m, A, ws, P, rfl, hk, sm, r, o, hc, _⟩ := h
    rw [List.length_insertIdx, if_pos hk, r.length]; exact len m ws P hc
  · obtain ⟨F, us, v0, m, A, ws, P, rfl, hk, sm, r, o, hc, kk⟩ := h
    refine ⟨_, hd cdv _ outer s H E hr, ?_⟩
    have R := repS_startL sm r o hk (by rw [len m ws P hc]; exact hN) N rfl
    refine ⟨_, F, _, _, R, hw m ws P hc, ?_⟩
    have fin : ∀ {F' H' : Hp} {σ' : L2.St} {δ' : List AV} {w : W} {v : V} {m' : M}, RepS T ⟨H, F, A, v0⟩ F' H' σ' δ' → gt δ' k = .ow true m' → P w m' → RepR T H F' H' v w → Apart T F' H' σ' δ' v w → Q v H' := fun {F' H' σ' δ' w v m'} R' e hP rr ap => by
      obtain ⟨u, A', e2, o', rfl, hA'⟩ := R'.own e
      exact kk w m' hP v F' H' A' R'.f0 R'.ex (fun a l h n => R'.fn a h l n) (fun a hn h => by
        cases q : H a with
        | none => exact absurd q h
        | some ob => exact R'.fr a ob q hn) R'.th o' hA' rr fun m1 B ew o1 => ap m1 k m' _ B A' ew e e2 o1 o'
    refine ⟨fun δ' ⟨m', e, q⟩ F' H' σ' s R' => fin R' e q .non apart_cl, fun w δ' ⟨m', e, q⟩ v F' H' σ' s R' r' ap => fin R' e q r' ap, fun δ' q => q.elim, fun δ' q => q.elim⟩
end
/-! ### own classes whose objects change: __init__ -/
abbrev IniO := List D → (List M → Prop) → Prop
def spIO (T : Tb) (c : Nat) (ini : IniO) : Sp := fun vs H Q _ => ∃ (F : Hp) (x dx : Addr) (us : List V) (ds : List D) (P : List M → Prop), vs = .ref x :: us ∧ H x = some (.ins (T.cl c) dx []) ∧ F x = none ∧ Same F H ∧ Reps T F us ds ∧ ini ds P ∧
  ∀ ms, P ms → ∀ F' H' vs' B, (∀ b o, b ≠ x → H b = some o → H' b = some o) → Same F F' → Same F' H' → (∀ a, H a ≠ none → NT H' a → F' a = F a) → H' x = some (.ins (T.cl c) dx ((T.fs c).zip vs')) → (T.fs c).length = vs'.length → Owns T F' H' vs' ms B → (∀ a ∈ B, H a = none) → Q .non H'
def aMakeO (c : Nat) (ini : IniO) (es : AA) : AE := fun δ Q => es δ fun ws => match clDs ws with
  | some ds => ini ds fun ms => Q (.fr (.ti c ms))
  | none => False
section
variable {T : Tb} {X : Cx} {e : Expr} {es : List Expr} {xs : AA} {pos p : Pos} {c k : Nat} {f : Str} {fa : Addr} {fd : FuncData} {ps : List Str} {ini : IniO}
theorem e_makeO (M : Mk X.K (T.cl c) fa) (Fn : FnOk X.prog X.w X.K X.mg X.base CX0 k fa fd ps (spIO T c ini)) (hr : Room (k + 1) X.A) (hg : Gl X f) (hm : X.mg f = some (.ref (T.cl c))) (hb : Binds X.K fd ps []) (ha : PA X (e :: es) (rdA T xs))
    (hdb : (f == ("__debug__" : Str)) = false := by decide) (he : starEach (e :: es) X.env = (false, eval e X.env) :: starEach es X.env := by rfl) (hpl : (backTo pos (starEach es X.env)).any (·.1) = false := by rfl) :
    PE X (.Call (.Name f p) (e :: es) [] pos) (rdE T (aMakeO c ini xs)) :=
  (pe_make (E := E0) M Fn hr hg hm hb .nil pass0 ha hdb he hpl).mono fun σ H Q h => by
    obtain ⟨G, F, δ, P, R, h, kk⟩ := h
    refine ⟨G, F, δ, _, R, h, fun ws hw us F1 H1 g r x dx hx hdx ne => ?_⟩
    rw [List.append_nil]
    split at hw
    · rename_i ds hd
      have hx2 : (upd H1 dx (.own x)) x = none := by rw [upd_ne ne.symm]; exact hx
      have g1 : Go F1 H1 F1 (upd (upd H1 dx (.own x)) x (.ins (T.cl c) dx [])) := ((Go.refl g.ex).lay hdx).lay hx2
      have fx : F1 x = none := g.ex.free hx
      refine ⟨F1, x, dx, us, ds, _, rfl, upd_same, fx, g1.ex, reps_cl r hd, hw, fun ms hms F' H' vs' B q1 q2 q3 q4 q5 q6 q7 q8 => ⟨rfl, ?_⟩⟩
      have fx' : F' x = none := by rw [q4 x (by rw [upd_same]; simp) (nt_of q5)]; exact fx
      have xB : x ∉ B := fun q => by have := q8 x q; rw [upd_same] at this; cases this
      have h1 : Same H H' := fun b o e => q1 b o (ne_of_none (g.h _ _ e) hx) (g1.h _ _ (g.h _ _ e))
      refine kk _ hms _ F' H' ⟨h1, g.f.trans q2, q3, fun a ha na => (q4 a (Same.nn g1.h (Same.nn g.h ha)) (Same.nt h1 ha na)).trans (g.n a ha na)⟩ ⟨x :: B, .ti q5 fx' q6 xB q7, fun a q => ?_⟩
      rcases List.mem_cons.mp q with q | q
      · rw [q]; exact g.h.free hx
      · have hn := q8 a q
        exact Classical.byContradiction fun z => (Same.nn g1.h (Same.nn g.h z)) hn
    · exact hw.elim
end
structure IniSO (T : Tb) (c : Nat) (G : Gx) (F H : Hp) (σ : L2.St) (δ : List AV) (x dx : Addr) (vs : List V) (ms : List M) (B : List Addr) : Prop where
  R : RepS T G F H σ δ
  L : G.L = [x]
  g0 : σ[0]? = some (some (.ref x))
  ob : H x = some (.ins (T.cl c) dx (((T.fs c).take vs.length).zip vs))
  ln : vs.length ≤ (T.fs c).length
  sm : (T.fs c).length < 1000
  fx : F x = none
  ow : Owns T F H vs ms B
  hB : ∀ a ∈ B, G.H0 a = none
  now : ∀ i l m, gt δ i ≠ .ow l m
abbrev AFO := List AV → List M → (List M → Prop) → Prop
def rdFO (T : Tb) (c : Nat) (a : AFO) : TS := fun D σ H => ∃ G F δ x dx vs ms B P, IniSO T c G F H σ δ x dx vs ms B ∧ a δ ms P ∧ ∀ ms', P ms' → ∀ F' H' vs' B', Same F F' → IniSO T c G F' H' σ δ x dx vs' ms' B' → D.nx σ H'
def aFO (n : Nat) (x : AE) : AFO := fun δ ms P => ms.length = n ∧ x δ fun w => match kidW w with
  | some m => P (ms ++ [m])
  | none => False
def aFsO (a b : AFO) : AFO := fun δ ms P => a δ ms fun ms' => b δ ms' P
section
variable {T : Tb} {X : Cx} {e : Expr} {st : Stmt} {rest : List Stmt} {x : AE} {pos p1 p2 : Pos} {c n : Nat} {f s : Str} {a b : AFO}
theorem i_fldO (hTK : T.K = X.K) (hC : Cls X.K (T.cl c)) (hn : NoAttr X.K (T.cl c) f) (hd : (T.fs c).Nodup) (hj : (T.fs c)[n]? = some f) (hN : X.N[0]? = some s) (he : PE X e (rdE T x)) (hs : swapsWith e (some (.Attribute (.Name s p1) f p2)) pos.line X.env = pure false := by rfl)
    (hv : Vis X.env.scope s := by first | exact Or.inl rfl | exact Or.inr (Or.inl rfl) | exact Or.inr (Or.inr rfl)) (hdd : (s == ("__debug__" : Str)) = false := by decide) (hcd : (s == ("__classdict__" : Str)) = false := by decide) : PS X (.Assign [.Attribute (.Name s p1) f p2] e pos) (rdFO T c (aFO n x)) :=
  (ps_fld (pe_var hN hv hdd hcd) he hs).mono fun D σ H h => by
    obtain ⟨G, F, δ, x, dx, vs, ms, B, P, S, ⟨hl, h⟩, k⟩ := h
    refine ⟨G, F, δ, _, S.R, h, fun w hw v F1 H1 g r => ?_⟩
    split at hw
    · rename_i m hm
      obtain ⟨D', od, hD⟩ := kid_own g r hm
      have hob := g.h _ _ S.ob
      have hvl : vs.length = n := S.ow.length.trans hl
      refine ⟨_, S.g0, x, _, dx, _, rfl, hob, hC, hn, ?_, ?_⟩
      · rw [List.length_zip, List.length_take]
        have := S.sm
        have := S.ln
        omega
      · have hfx : F1 x = none := by rw [g.n x (by rw [S.ob]; simp) (nt_of S.ob)]; exact S.fx
        rw [putF_zip hd (by rw [hvl]; exact hj)]
        have R2 := S.R.go g
        have hlt : vs.length < (T.fs c).length := by
          apply Classical.byContradiction
          intro q
          rw [List.getElem?_eq_none_iff.mpr (by omega)] at hj
          cases hj
        have hxL : x ∈ G.L := by rw [S.L]; exact List.mem_cons_self
        have hx0 : G.H0 x ≠ none := S.R.lh x hxL
        have xB : x ∉ B := fun q => hx0 (S.hB x q)
        have xD : x ∉ D' := fun q => by have := hD x q; rw [S.ob] at this; cases this
        have ow1 := (S.ow.go g).keep (H' := upd H1 x (.ins (T.cl c) dx (((T.fs c).take (vs ++ [v]).length).zip (vs ++ [v])))) (Same.refl _) (fun a q => upd_ne fun z => xB (z ▸ q)) fun a q => ((S.ow.go g).mem a q).2
        have od1 := od.keep (H' := upd H1 x (.ins (T.cl c) dx (((T.fs c).take (vs ++ [v]).length).zip (vs ++ [v])))) (Same.refl _) (fun a q => upd_ne fun z => xD (z ▸ q)) fun a q => (od.mem a q).2
        obtain ⟨B2, ow2, hB2⟩ := ow1.snoc (N := fun a => H a = none) od1 hD fun a n q => (S.ow.mem a q).1 n
        refine k _ hw F1 _ (vs ++ [v]) B2 g.f ⟨⟨?_, ?_, ?_, R2.lh, R2.f0, (fun a h l n => R2.fn a h l (n.upd (nt_of hob))), R2.len, ?_, ?_⟩, S.L, S.g0, upd_same, by rw [List.length_append, List.length_singleton]; omega, S.sm, hfx, ow2, fun a q => ?_, S.now⟩
        · intro q o e
          rw [upd_ne (ne_of_none e hfx)]; exact R2.ex _ _ e
        · intro q o e hq
          have : q ≠ x := fun z => hq (z ▸ hxL)
          rw [upd_ne this]; exact R2.fr q o e hq
        · intro q hq z
          by_cases e : q = x
          · rw [e, upd_same] at z; cases z
          · rw [upd_ne e] at z; exact R2.th q hq z
        · intro i
          have q := R2.sl i
          revert q
          generalize hg : gt δ i = av
          intro q
          cases av with
          | non => trivial
          | im d => exact q
          | bw m =>
            obtain ⟨w, A, e1, o, hA⟩ := q
            exact ⟨w, A, e1, o.keep (Same.refl _) (fun a q => upd_ne fun z => (hA a q).1 (z ▸ hxL)) (fun a q => (o.mem a q).2), hA⟩
          | ow l m => exact absurd hg (S.now i l m)
        · intro i j l l' m m' u w A B ne e1
          exact absurd e1 (S.now i l m)
        · rcases hB2 a q with z | z
          · exact S.hB a z
          · exact Classical.byContradiction fun y => S.R.th a y z
    · exact hw.elim
theorem i_oneO (h1 : PS X st (rdFO T c a)) : PSs X [st] (rdFO T c a) := pss_one h1
theorem i_consO (h1 : PS X st (rdFO T c a)) (h2 : PSs X rest (rdFO T c b)) : PSs X (st :: rest) (rdFO T c (aFsO a b)) := (pss_cons h1 h2).mono fun D σ H h => by
  obtain ⟨G, F, δ, x, dx, vs, ms, B, P, S, h, k⟩ := h
  exact ⟨G, F, δ, x, dx, vs, ms, B, _, S, h, fun ms' q F' H' vs' B' s S' => ⟨G, F', δ, x, dx, vs', ms', B', P, S', q, fun ms2 q2 F2 H2 vs2 B2 s2 S2 => k ms2 q2 F2 H2 vs2 B2 (s.trans s2) S2⟩⟩
end
section
variable {T : Tb} {P : Program} {wd : World} {K : PySem.W.Frag} {mg : Str → Option Value} {base : Heap} {f : Addr} {fd : FuncData} {k c : Nat} {ini : IniO} {a : AFO}
theorem repS_clean {F H : Hp} {x dx C : Addr} {us : List V} {ds : List D} (sm : Same F H) (r : Reps T F us ds) (hx : H x = some (.ins C dx [])) (Nm : List Str) (hNm : Nm.length = us.length + 1) : RepS T ⟨H, F, [x], .non⟩ F H (L2.start Nm (.ref x :: us)) (.non :: ds.map .im) := by
  have h := repS_ini (ws := ds.map W.cl) (vs := us) sm ⟨by rw [List.length_map]; exact r.length, fun i w hw => by
    rw [List.getElem?_map] at hw
    cases e : ds[i]? with
    | none => rw [e] at hw; cases hw
    | some d =>
      rw [e] at hw; cases hw
      obtain ⟨v, hv, rv⟩ := r.getD e
      exact ⟨v, hv, rv⟩⟩ hx Nm hNm
  rw [List.map_map] at h
  exact h
theorem fn_iniO {y qual : Str} {st : Stmt} {N : List Str} (Fn : Fun K y qual st f fd) (S : FnScope N N (defScope st)) (len : ∀ ds P, ini ds P → ds.length + 1 = N.length) (hsm : (T.fs c).length < 1000)
    (hd : ∀ (cdv : Value) (A : Around) (outer : List Env) (s : Shared) (H : Hp) (E : XK), Room k (A.deeper (envOfC qual (defScope st) s.heap.objs.size f cdv)) →
      PSs (cxOf CX0 P wd K mg base N qual (defScope st) f cdv A outer s H E).nox (defBody st) (rdFO T c a))
    (hw : ∀ ds P, ini ds P → a (.non :: ds.map .im) [] fun ms => ms.length = (T.fs c).length ∧ P ms) : FnOk P wd K mg base CX0 (k + 1) f fd N (spIO T c ini) := by
  refine Fn.ok S (fun vs H Q E h => ?_) (fun cdv A outer s H vs Q E hr h => ?_)
  · obtain ⟨F, x, dx, us, ds, P, rfl, hx, fx, sm, r, hi, kk⟩ := h
    rw [← len ds P hi, List.length_cons, r.length]
  · obtain ⟨F, x, dx, us, ds, P, rfl, hx, fx, sm, r, hi, kk⟩ := h
    refine ⟨_, hd cdv A outer s H E hr, ?_⟩
    refine ⟨_, F, _, x, dx, [], [], [], _, ⟨repS_clean sm r hx N (by rw [r.length]; exact (len ds P hi).symm), rfl, rfl, by rw [hx]; rfl, Nat.zero_le _, hsm, fx, .nil, fun a q => (nomatch q), fun i l m e => ?_⟩, hw ds P hi, fun ms ⟨hl, hP⟩ F' H' vs' B s S => ?_⟩
    · cases i with
      | zero => cases e
      | succ i =>
        unfold gt at e
        rw [List.getD_eq_getElem?_getD, List.getElem?_cons_succ, List.getElem?_map] at e
        cases e2 : ds[i]? with
        | none => rw [e2] at e; cases e
        | some d => rw [e2] at e; cases e
    · have hvl : vs'.length = (T.fs c).length := S.ow.length.trans hl
      have ho := S.ob
      rw [hvl, List.take_length] at ho
      exact kk ms hP F' H' vs' B (fun b o hb e => S.R.fr b o e (by simpa using hb)) s S.R.ex (fun a h n => by
        by_cases q : a = x
        · subst q; exact S.fx.trans fx.symm
        · exact S.R.fn a h (fun z => q (List.mem_singleton.mp z)) n) ho hvl.symm S.ow S.hB
end
end Vl
/-! Displays of own things; comprehensions over own lists; methods with an answer; loops over what has an effect. -/
namespace Vl
open PySem PySem.Spec PyProof.Rows L2

/-! ### displays of own things -/
abbrev AAO := List AV → (List M → Prop) → Prop
def aoNil : AAO := fun _ P => P []
def aoCons (e : AE) (r : AAO) : AAO := fun δ P => e δ fun w => match kidW w with
  | some m => r δ fun ms => P (m :: ms)
  | none => False
def rdAO (T : Tb) (a : AAO) : TA := fun σ H Q => ∃ G F δ P, RepS T G F H σ δ ∧ a δ P ∧ ∀ ms, P ms → ∀ vs F' H' B, Go F H F' H' → Owns T F' H' vs ms B → (∀ a ∈ B, H a = none) → Q vs H'
def aLstO (es : AAO) : AE := fun δ Q => es δ fun ms => ms.length ≤ 1000000 ∧ Q (.fr (.tl ms))
def dispGo : List (Str × AE) → List AV → (List M → Prop) → Prop
  | [], _, P => P []
  | (_, x) :: r, δ, P => x δ fun w => match kidW w with
    | some m => dispGo r δ fun ms => P (m :: ms)
    | none => False
/-- {'a': x, ..} -/
def aDisp (xs : List (Str × AE)) : AE := fun δ Q => dispGo xs δ fun ms => Q (.fr (.td false (xs.map fun p => [Sum.inr p.1]) ms))
section
variable {T : Tb} {X : Cx} {e : Expr} {es : List Expr} {x : AE} {xs : AAO} {pos : Pos}
theorem ao_nil : PA X [] (rdAO T aoNil) := pa_nil.mono fun σ H Q h => by
  obtain ⟨G, F, δ, P, R, h, k⟩ := h
  exact k _ h [] F H [] (Go.refl R.ex) .nil fun a q => nomatch q
theorem ao_cons (ha : PE X e (rdE T x)) (hr : PA X es (rdAO T xs)) (hs : starEach (e :: es) X.env = (false, eval e X.env) :: starEach es X.env := by rfl) : PA X (e :: es) (rdAO T (aoCons x xs)) :=
  (pa_cons ha hr hs).mono fun σ H Q h => by
    obtain ⟨G, F, δ, P, R, h, k⟩ := h
    refine ⟨G, F, δ, _, R, h, fun w hw v F1 H1 g r => ?_⟩
    split at hw
    · rename_i m hm
      obtain ⟨D, od, hD⟩ := kid_own g r hm
      refine ⟨G, F1, δ, _, R.go g, hw, fun ms hms vs F2 H2 B g2 t hB => ?_⟩
      refine k _ hms (v :: vs) F2 H2 (D ++ B) (g.trans g2) (.cons (od.go g2) t fun a q z => (od.mem a q).1 (hB a z)) fun a q => ?_
      rcases List.mem_append.mp q with q | q
      · exact hD a q
      · exact g.h.free (hB a q)
    · exact hw.elim
theorem e_lstO (h : PA X es (rdAO T xs)) : PE X (.List es pos) (rdE T (aLstO xs)) := (pe_lst h).mono fun σ H Q h => by
  obtain ⟨G, F, δ, P, R, h, k⟩ := h
  refine ⟨G, F, δ, _, R, h, fun ms hw vs F1 H1 B g t hB => ?_⟩
  obtain ⟨l, q⟩ := hw
  refine ⟨by rw [t.length]; exact dSz_line l, fun p hp => ?_⟩
  have pB : p ∉ B := fun z => (t.mem p z).1 hp
  refine k _ q _ F1 _ (g.lay hp) ⟨p :: B, .tl upd_same (g.ex.free hp) pB (t.keep (Same.refl _) (fun a z => upd_ne fun y => pB (y ▸ z)) fun a z => (t.mem a z).2), fun a z => ?_⟩
  rcases List.mem_cons.mp z with z | z
  · rw [z]; exact g.h.free hp
  · exact hB a z
def trsOf (T : Tb) (xs : List (Str × AE)) : List (TE × TE) := xs.map fun p => (tC (.str p.1), rdE T p.2)
theorem rd_pairs {G : Gx} : ∀ {xs : List (Str × AE)} {F H : Hp} {σ : L2.St} {δ : List AV} {P : List M → Prop} {Q : List (V × V) → Hp → Prop}, RepS T G F H σ δ → dispGo xs δ P →
    (∀ ms, P ms → ∀ vs F' H' B, Go F H F' H' → Owns T F' H' vs ms B → (∀ a ∈ B, H a = none) → vs.length = xs.length → Q ((xs.map fun p => V.str p.1).zip vs) H') → tPairs (trsOf T xs) σ H Q
  | [], F, H, σ, δ, P, Q, R, h, k => k _ h [] F H [] (Go.refl R.ex) .nil (fun a q => nomatch q) rfl
  | (s, x) :: xs, F, H, σ, δ, P, Q, R, h, k => by
    show rdE T x σ H _
    refine ⟨G, F, δ, _, R, h, fun w hw v F1 H1 g r => ?_⟩
    split at hw
    · rename_i m hm
      obtain ⟨D, od, hD⟩ := kid_own g r hm
      refine rd_pairs (R.go g) hw fun ms hms vs F2 H2 B g2 t hB hl => ?_
      refine k _ hms (v :: vs) F2 H2 (D ++ B) (g.trans g2) (.cons (od.go g2) t fun a q z => (od.mem a q).1 (hB a z)) (fun a q => ?_) (by simp [hl])
      rcases List.mem_append.mp q with q | q
      · exact hD a q
      · exact g.h.free (hB a q)
    · exact hw.elim
theorem mergeK_new : ∀ {more kvs : List (Key × V)}, ((kvs ++ more).map (·.1)).Nodup → mergeK kvs more = kvs ++ more
  | [], kvs, _ => by simp [mergeK]
  | p :: more, kvs, nd => by
    show mergeK (putK kvs p.1 p.2) more = _
    have hn : ¬ (kvs.any fun kv => decide (kv.1 = p.1)) = true := fun z => by
      obtain ⟨q, hq, e⟩ := List.any_eq_true.mp z
      rw [List.map_append, List.nodup_append] at nd
      exact nd.2.2 q.1 (List.mem_map.mpr ⟨q, hq, rfl⟩) p.1 (by simp) (of_decide_eq_true e)
    have e1 : putK kvs p.1 p.2 = kvs ++ [p] := by unfold putK; rw [if_neg hn]
    rw [e1, mergeK_new (by rw [List.append_assoc]; exact nd), List.append_assoc]
    rfl
theorem e_disp {keys : List (Option Expr)} {values : List Expr} {xs : List (Str × AE)} (h : PPs X pos keys values (trsOf T xs)) (nd : (xs.map (·.1)).Nodup) (h15 : xs.length ≤ 15) (hall : keys.all (·.isSome) = true := by rfl) (hl : keys.length = values.length := by rfl) (h0 : keys ≠ [] := by intro z; cases z)
    (hk15 : keys.length ≤ 15 := by decide) : PE X (.Dict keys values pos) (rdE T (aDisp xs)) := (pe_disp h hall hl h0 hk15).mono fun σ H Q h => by
  obtain ⟨G, F, δ, P, R, h, k⟩ := h
  intro p hp
  have g0 : Go F H F (upd H p (.dK [])) := (Go.refl R.ex).lay hp
  refine rd_pairs (R.go g0) h fun ms hms vs F2 H2 B g t hB hl => ⟨g.h _ _ upd_same, (xs.map (fun p => (Sum.inr p.1 : Key))).zip vs, ?_, ?_, ?_⟩
  · apply List.ext_getElem?
    intro i
    simp only [List.getElem?_map, List.getElem?_zip_eq_some, List.zip, List.getElem?_zipWith]
    cases xs[i]? <;> cases vs[i]? <;> rfl
  · rw [List.length_zip, List.length_map]; omega
  · have e1 : ((xs.map (fun p => (Sum.inr p.1 : Key))).zip vs).map (·.1) = xs.map fun p => (Sum.inr p.1 : Key) := List.map_fst_zip (by rw [List.length_map]; omega)
    have e2 : ((xs.map (fun p => (Sum.inr p.1 : Key))).zip vs).map (·.2) = vs := List.map_snd_zip (by rw [List.length_map]; omega)
    have nd2 : (xs.map fun p => (Sum.inr p.1 : Key)).Nodup := by
      have : (xs.map fun p => (Sum.inr p.1 : Key)) = (xs.map (·.1)).map fun s => (Sum.inr s : Key) := by rw [List.map_map]; rfl
      rw [this]
      exact List.Pairwise.map _ (fun a b hab z => hab (by cases z; rfl)) nd
    have nd3 : (xs.map fun p => [(Sum.inr p.1 : Key)]).Nodup := by
      have : (xs.map fun p => [(Sum.inr p.1 : Key)]) = (xs.map fun p => (Sum.inr p.1 : Key)).map fun s => [s] := by rw [List.map_map]; rfl
      rw [this]
      exact List.Pairwise.map _ (fun a b hab z => hab (by cases z; rfl)) nd2
    rw [mergeK_new (by rw [List.nil_append, e1]; exact nd2), List.nil_append]
    have pB : p ∉ B := fun z => by have := hB p z; rw [upd_same] at this; cases this
    have fp : F2 p = none := by rw [g.n p (by rw [upd_same]; simp) (nt_of upd_same)]; exact R.ex.free hp
    refine k _ hms _ F2 _ ((g0.trans g).side hp fp) ⟨p :: B, .td upd_same fp ⟨nd3, _, rfl, ?_, e2.symm⟩ pB (t.keep (Same.refl _) (fun a z => upd_ne fun y => pB (y ▸ z)) fun a z => (t.mem a z).2), fun a z => ?_⟩
    · rw [show (fun p : Key × V => [p.1]) = (fun a : Key => [a]) ∘ (fun p : Key × V => p.1) from rfl, ← List.map_map, e1, List.map_map]
      rfl
    · rcases List.mem_cons.mp z with z | z
      · rw [z]; exact hp
      · have := hB a z
        by_cases e : a = p
        · rw [e]; exact hp
        · rw [upd_ne e] at this; exact this
end
/-! ### comprehensions over own lists: nothing is changed meanwhile -/
def IsWalkG (T : Tb) (F H : Hp) (J : It) (ds : List D) : Prop := ∃ Gd Y, Walk J ds.length Gd Y ∧ (∀ F' H', Go F H F' H' → Gd H') ∧
  ∀ i H x H', i < ds.length → Gd H → Y i H x H' → H' = H ∧ ∃ d, ds[i]? = some d ∧ ∀ F', Same F F' → Same F' H → Rep T F' x d
def rdIG (T : Tb) (a : AI) : TI := fun σ H R => ∃ G F δ P, RepS T G F H σ δ ∧ a δ P ∧ ∀ ds, P ds → ∀ J F1 H1, Go F H F1 H1 → IsWalkG T F1 H1 J ds → R J H1
/-- a list, own or not -/
def iLstG (a : AE) : AI := fun δ Q => a δ fun w => match argW w with
  | .cl (.lst ds) => Q ds
  | .cl (.scr ns) => Q (ns.map .int)
  | .bw (.fl ds) => Q ds
  | .ow (.fl ds) => Q ds
  | _ => False
section
variable {T : Tb} {X : Cx} {tg e : Expr} {x : AE} {G : Gx} {F H : Hp} {σ : L2.St} {δ : List AV} {vs ks : List Nat}
theorem i_toG {a : AI} {it : Expr} (h : PI X tg it (rdI T a)) : PI X tg it (rdIG T a) := h.mono fun σ H Q h => by
  obtain ⟨G, F, δ, P, R, h, k⟩ := h
  refine ⟨G, F, δ, _, R, h, fun ds hd J F1 H1 g W => ?_⟩
  obtain ⟨Gd, Y, w, st, yy⟩ := W
  exact k ds hd J F1 H1 g ⟨Gd, Y, w, fun F' H' g' => st F' H' σ δ g'.f ((R.go g).go g'), yy⟩
theorem walk_flG {a : Addr} {vs : List V} {ds : List D} (r : Reps T F vs ds) (hs : ∀ F' H', Go F H F' H' → SqL T.K H' a vs) : IsWalkG T F H (Itl T.K a) ds := by
  have w := walk_list (K := T.K) (a := a) (xs := vs)
  rw [r.length] at w
  refine ⟨_, _, w, hs, fun i H x H' hi g y => ⟨y.1, ?_⟩⟩
  obtain ⟨d, hd, rd⟩ := r.get y.2
  exact ⟨d, hd, fun F' s _ => rd.mono s⟩
theorem i_lstG (hTK : T.K = X.K) (he : PE X e (rdE T x)) : PI X tg e (rdIG T (iLstG x)) := (pi_list he).mono fun σ H Q h => by
  obtain ⟨G, F, δ, P, R, h, k⟩ := h
  refine ⟨G, F, δ, _, R, h, fun w hw v F1 H1 g r => ?_⟩
  obtain ⟨F2, g2, _, _, r2, _⟩ := RepW.arg g r
  rw [← hTK]
  split at hw
  · rename_i ds hd
    rw [hd] at r2
    obtain ⟨a, vs, rfl, ha, rr⟩ := rep_lst r2
    exact ⟨a, rfl, ⟨vs, SqL.of (g2.ex _ _ ha)⟩, k _ hw _ F2 H1 g2 (walk_flG rr fun F' H' g' => SqL.of (g'.ex _ _ (g'.f _ _ ha)))⟩
  · rename_i ns hd
    rw [hd] at r2
    cases r2 with
    | scr q => exact ⟨_, rfl, ⟨_, Same.seq g2.ex q⟩, k _ hw _ F2 H1 g2 (walk_flG (reps_of_ints _) fun F' H' g' => Same.seq g'.ex (Same.seq g'.f q))⟩
  · rename_i ds hd
    rw [hd] at r2
    obtain ⟨A, o, hA⟩ := r2
    obtain ⟨a, vs, rfl, rfl, q, _, rr⟩ := own_fl o
    exact ⟨a, rfl, ⟨vs, SqL.of q⟩, k _ hw _ F2 H1 g2 (walk_flG rr fun F' H' g' => SqL.of (g'.h _ _ q))⟩
  · rename_i ds hd
    rw [hd] at r2
    obtain ⟨A, o⟩ := r2
    obtain ⟨a, vs, rfl, rfl, q, _, rr⟩ := own_fl o
    exact ⟨a, rfl, ⟨vs, SqL.of q⟩, k _ hw _ F2 H1 g2 (walk_flG rr fun F' H' g' => SqL.of (g'.h _ _ q))⟩
  · exact hw.elim
theorem rd_lcG {ai : AI} {ag : AG} {t : AT} {e : AE} (hk : ∀ i ∈ ks, i ∈ vs) {Q : VK} (h : rdE T (aLc ai ag t e vs) σ H Q) : tLc (rdIG T ai) (rdG T ks ag) (rdT T t) (rdE T e) vs σ H Q := by
  obtain ⟨G, F, δ, P, R, h, k⟩ := h
  refine ⟨G, F, δ, _, R, h, fun ds hd J F1 H1 g W => fun DD hD => ?_⟩
  obtain ⟨Gd, Y, w, stb, yy⟩ := W
  have R1 := R.go g
  have hD0 : H DD = none := g.h.free hD
  have Rw := R1.wipe vs
  have next : ∀ {F' H' : Hp} {acc : List D} {accV : List V} {y : D} {v : V} {i : Nat}, Go F1 H1 F' H' → F' DD = none → H' DD = some (.lst accV) → Reps T F' accV acc → Rep T F' v y → lcGo ag t e (wipeA δ vs) (ds.drop (i + 1)) (acc ++ [y]) P →
      ∃ F2 acc accV2, Go F1 H1 F2 (upd H' DD (.lst (accV ++ [v]))) ∧ F2 DD = none ∧ (upd H' DD (.lst (accV ++ [v]))) DD = some (.lst accV2) ∧ Reps T F2 accV2 acc ∧ lcGo ag t e (wipeA δ vs) (ds.drop (i + 1)) acc P :=
    fun {F' H' acc accV y v i} g1 f1 h1 r1 ry q => ⟨F', acc ++ [y], accV ++ [v], g1.side hD f1, f1, upd_same, r1.snoc ry, q⟩
  refine lc_it w (fun i H' => ∃ F' acc accV, Go F1 H1 F' H' ∧ F' DD = none ∧ H' DD = some (.lst accV) ∧ Reps T F' accV acc ∧ lcGo ag t e (wipeA δ vs) (ds.drop i) acc P) ⟨F1, [], [], (Go.refl g.ex).lay hD, g.ex.free hD, upd_same, .nil, hd⟩
    (fun i H' _ ⟨F', _, _, g1, _⟩ => stb F' H' g1) ?_ ?_
  · rintro i x H' H2 hi ⟨F', acc, accV, g1, f1, h1, r1, hq⟩ hy
    have R' := Rw.go g1
    obtain ⟨rfl, d, hd, rd⟩ := yy i H' x H2 hi (stb F' H' g1) hy
    have e1 : ds.drop i = d :: ds.drop (i + 1) := by
      obtain ⟨hl, he⟩ := List.getElem?_eq_some_iff.mp hd
      rw [List.drop_eq_getElem_cons hl, he]
    rw [e1] at hq
    unfold lcGo at hq
    refine ⟨G, F', _, _, d, R', rd F' g1.f g1.ex, hq, fun δ2 q σ2 kp R2 => ⟨wipe_keep hk kp, ?_⟩⟩
    refine ⟨G, F', δ2, _, R2, q, fun b hb F3 H3 g3 => ?_⟩
    have f3 : F3 DD = none := (g3.n DD (by rw [h1]; simp) (nt_of h1)).trans f1
    have h3 : H3 DD = some (.lst accV) := g3.h _ _ h1
    cases b with
    | true =>
      rw [if_pos rfl] at hb
      refine iteT ?_
      refine ⟨G, F3, δ2, _, R2.go g3, hb, fun w hw v F4 H4 g4 r4 => ?_⟩
      obtain ⟨F5, g5, _, s5, r5, n5⟩ := RepW.arg g4 r4
      split at hw
      · rename_i y hy
        rw [hy] at r5
        have h5 : H4 DD = some (.lst accV) := g4.h _ _ h3
        have f5 : F5 DD = none := (g5.n DD (by rw [h3]; simp) (nt_of h3)).trans f3
        exact ⟨accV, h5, by rw [r1.length]; exact dSz_lt hw.1, next (g1.trans (g3.trans g5)) f5 h5 (r1.mono (g3.f.trans g5.f)) r5 hw.2⟩
      · exact hw.elim
    | false =>
      rw [if_neg Bool.false_ne_true] at hb
      refine iteF ?_
      exact ⟨F3, acc, accV, g1.trans g3, f3, h3, r1.mono g3.f, hb⟩
  · rintro H' ⟨F', acc, accV, g1, f1, h1, r1, hq⟩
    rw [List.drop_length] at hq
    unfold lcGo at hq
    exact k _ hq _ F' H' (g.trans g1) ⟨[DD], .fl h1 f1 r1, fun a q => by rw [List.mem_singleton.mp q]; exact hD0⟩
theorem e_lcG {elt tg iter : Expr} {ifs : List Expr} {scope : Scope} {own : List (Str × Nat)} {pos : Pos} {ai : AI} {ag : AG} {t : AT} {e : AE} (hc : X.calm = true) (hN : X.N.Nodup) (hi : PI X tg iter (rdIG T ai)) (ok : BlkOk X.N X.env.scope scope own) (hk : ∀ i ∈ ks, i ∈ own.map (·.2))
    (hg : ∀ (s : Shared) (H : Hp) (C : Addr) (cl : List (Str × Addr)) (fp : List Addr), PG (X.blk s H scope (compEnvC scope cl C X.env) fp) tg (rdG T ks ag)) (ht : ∀ (s : Shared) (H : Hp) (C : Addr) (cl : List (Str × Addr)) (fp : List Addr), PTs (X.blk s H scope (compEnvC scope cl C X.env) fp) ifs (rdT T t))
    (he : ∀ (s : Shared) (H : Hp) (C : Addr) (cl : List (Str × Addr)) (fp : List Addr), PE (X.blk s H scope (compEnvC scope cl C X.env) fp) elt (rdE T e)) (hs : ∀ x, foldedSetIterable iter X.env x = pure x := by intro _; rfl) :
    PE X (.ListComp elt [⟨tg, iter, ifs, 0⟩] scope pos) (rdE T (aLc ai ag t e (own.map (·.2)))) := (pe_lc hc hN hi ok hg ht he hs).mono fun _ _ _ h => rd_lcG hk h
theorem s_setLcG {i : Nat} {y : Str} {py : Pos} {elt tg iter : Expr} {ifs : List Expr} {scope : Scope} {own : List (Str × Nat)} {pos spos : Pos} {ai : AI} {ag : AG} {t : AT} {e : AE} (hc : X.calm = true) (hN : X.N.Nodup) (hy : X.N[i]? = some y) (hyl : X.env.scope.names.lookup y = some .local)
    (hsw : swapsWith (.ListComp elt [⟨tg, iter, ifs, 0⟩] scope pos) (some (.Name y py)) spos.line X.env = pure true) (hi : PI X tg iter (rdIG T ai)) (ok : BlkOk X.N X.env.scope scope own) (hk : ∀ i ∈ ks, i ∈ own.map (·.2))
    (hg : ∀ (s : Shared) (H : Hp) (C : Addr) (cl : List (Str × Addr)) (fp : List Addr), PG (X.blk s H scope (compEnvC scope cl C X.env) fp) tg (rdG T ks ag)) (ht : ∀ (s : Shared) (H : Hp) (C : Addr) (cl : List (Str × Addr)) (fp : List Addr), PTs (X.blk s H scope (compEnvC scope cl C X.env) fp) ifs (rdT T t))
    (he : ∀ (s : Shared) (H : Hp) (C : Addr) (cl : List (Str × Addr)) (fp : List Addr), PE (X.blk s H scope (compEnvC scope cl C X.env) fp) elt (rdE T e)) (hs : ∀ x, foldedSetIterable iter X.env x = pure x := by intro _; rfl) :
    PS X (.Assign [.Name y py] (.ListComp elt [⟨tg, iter, ifs, 0⟩] scope pos) spos) (rdS T (aSet i (aLc ai ag t e (own.map (·.2))))) := (ps_setLc hc hN hy hyl hsw hi ok hg ht he hs).mono fun D σ H h => by
  obtain ⟨G, F, δ, E, R, h, k⟩ := h
  refine rd_lcG hk ⟨G, F, δ, _, R, h, fun w hw v F1 H1 g r => ?_⟩
  split at hw
  · rename_i a ha
    exact k.nx _ hw F1 H1 _ g.f (R.store g r ha)
  · exact hw.elim
theorem s_setCLcG {i : Nat} {y : Str} {py : Pos} {elt tg iter : Expr} {ifs : List Expr} {scope : Scope} {own : List (Str × Nat)} {pos spos : Pos} {ai : AI} {ag : AG} {t : AT} {e : AE} (hc : X.calm = true) (hN : X.N.Nodup) (hy : X.N[i]? = some y) (hyl : X.env.scope.names.lookup y = some .local)
    (hsw : swapsWith (.ListComp elt [⟨tg, iter, ifs, 0⟩] scope pos) (some (.Name y py)) spos.line X.env = pure true) (hi : PI X tg iter (rdIG T ai)) (ok : BlkOk X.N X.env.scope scope own) (hk : ∀ i ∈ ks, i ∈ own.map (·.2))
    (hg : ∀ (s : Shared) (H : Hp) (C : Addr) (cl : List (Str × Addr)) (fp : List Addr), PG (X.blk s H scope (compEnvC scope cl C X.env) fp) tg (rdG T ks ag)) (ht : ∀ (s : Shared) (H : Hp) (C : Addr) (cl : List (Str × Addr)) (fp : List Addr), PTs (X.blk s H scope (compEnvC scope cl C X.env) fp) ifs (rdT T t))
    (he : ∀ (s : Shared) (H : Hp) (C : Addr) (cl : List (Str × Addr)) (fp : List Addr), PE (X.blk s H scope (compEnvC scope cl C X.env) fp) elt (rdE T e)) (hs : ∀ x, foldedSetIterable iter X.env x = pure x := by intro _; rfl) :
    PS X (.Assign [.Name y py] (.ListComp elt [⟨tg, iter, ifs, 0⟩] scope pos) spos) (rdS T (aSetC i (aLc ai ag t e (own.map (·.2))))) := (ps_setLc hc hN hy hyl hsw hi ok hg ht he hs).mono fun D σ H h => by
  obtain ⟨G, F, δ, E, R, h, k⟩ := h
  refine rd_lcG hk ⟨G, F, δ, _, R, h, fun w hw v F1 H1 g r => ?_⟩
  split at hw
  · rename_i d hd
    obtain ⟨F2, g2, r2⟩ := clW_rep g r hd
    exact k.nx _ hw F2 H1 _ g2.f ((R.go g2).put (a := .im d) ⟨v, rfl, r2⟩ fun _ _ e => nomatch e)
  · exact hw.elim
end
/-! ### methods of own objects, with an answer -/
def xMut (ty : String) (pl : AP) (f : FM) (es : AA) : AX := fun δ Q => pl δ fun i c k => tyM k = ty ∧ es δ fun ws => f k ws fun k' d => Q (.cl d) (setP δ i (c k'))
section
variable {T : Tb} {X : Cx} {e : Expr} {pl : AP} {xs : AA} {K : PySem.W.Frag} {Ty : String} {r : V → List V → Hp → VK → Prop} {fm : FM}
theorem x_mut (hf : MutV T r fm) (hTK : T.K = K) (h : PE X e (tBM K Ty r (rdP T pl) (rdA T xs))) (hT : Ty ≠ "" := by decide) : PE X e (rdX T (xMut Ty pl fm xs)) := h.mono fun σ H Q h => by
  obtain ⟨G, F, δ, P, R, h, k⟩ := h
  refine ⟨G, F, δ, _, R, h, fun i c kk hw F1 H1 g l m v A u B e1 e2 o S => ?_⟩
  obtain ⟨ht, hw⟩ := hw
  refine ⟨ty_own S.ow ht hT, G, F1, δ, _, R.go g, hw, fun ws hw vs F2 H2 g2 ra => ?_⟩
  have S2 := S.go g2
  have g12 := g.trans g2
  refine hf G F2 H2 u kk B vs ws _ _ g2.ex S2.ow ra hw fun k' d hP z H' B' ch o' hB' rz => ?_
  exact k _ _ hP z F2 H' g12.f (R.plc g12 e1 e2 (o.go g2) S2 ch.ex (Same.refl _) (fun _ _ _ _ => rfl) ch.fr ch.th o' fun a q => .inl (hB' a q)) rz fun _ _ _ _ _ _ _ e => nomatch e
theorem x_mut0 (hf : MutV T r fm) (h : PE X e (tBM0 K Ty r (rdP T pl))) (hT : Ty ≠ "" := by decide) : PE X e (rdX T (xMut Ty pl fm aNil)) := h.mono fun σ H Q h => by
  obtain ⟨G, F, δ, P, R, h, k⟩ := h
  refine ⟨G, F, δ, _, R, h, fun i c kk hw F1 H1 g l m v A u B e1 e2 o S => ?_⟩
  obtain ⟨ht, hw⟩ := hw
  refine ⟨ty_own S.ow ht hT, ?_⟩
  refine hf G F1 H1 u kk B [] [] _ _ g.ex S.ow .nil hw fun k' d hP z H' B' ch o' hB' rz => ?_
  exact k _ _ hP z F1 H' g.f (R.plc g e1 e2 o S ch.ex (Same.refl _) (fun _ _ _ _ => rfl) ch.fr ch.th o' fun a q => .inl (hB' a q)) rz fun _ _ _ _ _ _ _ e => nomatch e
end
end Vl
/-! xs.remove(i); small helps for plain laws. -/
namespace Vl
open PySem PySem.Spec PyProof.Rows L2
def mRemove : FM := fun m ws P => match m, ws with
  | .fl ds, [.cl (.int k)] => ∃ ns : List Int, ds = ns.map .int ∧ k ∈ ns ∧ P (.fl ((ns.erase k).map .int)) .non
  | _, _ => False
theorem erase_at : ∀ (ns : List Int) (k : Int), k ∈ ns → ∃ j, ns[j]? = some k ∧ (∀ m : Nat, m < j → ns[m]? ≠ some k) ∧ ns.eraseIdx j = ns.erase k
  | [], k, h => nomatch h
  | a :: r, k, h => by
    by_cases e : a = k
    · subst e
      exact ⟨0, rfl, fun m hm => by omega, by simp⟩
    · have h2 : k ∈ r := by
        rcases List.mem_cons.mp h with z | z
        · exact absurd z.symm e
        · exact z
      obtain ⟨j, h3, h4, h5⟩ := erase_at r k h2
      refine ⟨j + 1, by simpa using h3, fun m hm => ?_, ?_⟩
      · cases m with
        | zero => simpa using e
        | succ m => simpa using h4 m (by omega)
      · rw [List.eraseIdx_cons_succ, h5, List.erase_cons, if_neg (by simpa using e)]
theorem m_remove {T : Tb} : MutV T rRemI mRemove := by
  intro G F H v m A xs ws P Q sm ow ra h k
  unfold mRemove at h
  split at h
  · rename_i ds k0
    obtain ⟨p, vs, rfl, rfl, ho, hf, r⟩ := own_fl ow
    obtain ⟨ns, rfl, hk, h⟩ := h
    cases reps_ints r
    obtain ⟨j, h1, h2, h3⟩ := erase_at ns k0 hk
    cases ra with
    | cons r2 t =>
      cases t
      refine ⟨p, ns, k0, j, rfl, by rw [rep_int r2], ho, h1, h2, ?_⟩
      rw [h3]
      exact k _ _ h _ _ _ (chg_upd sm List.mem_cons_self hf) (.fl upd_same hf (reps_of_ints _)) (fun _ q => q) .non
  · exact h.elim
theorem allW_nil : ([] : List W).all apW = true := rfl
theorem allW_cons (w : W) (ws : List W) : (w :: ws).all apW = (apW w && ws.all apW) := List.all_cons
theorem ite_no {c a b : Prop} [Decidable c] (h : ¬ c) (hb : b) : if c then a else b := by rw [if_neg h]; exact hb
theorem ite_yes {c a b : Prop} [Decidable c] (h : c) (ha : a) : if c then a else b := by rw [if_pos h]; exact ha
end Vl
set_option maxHeartbeats 4000000
/-! sorted of tuples of ints, of a dict's keys; min, max of a dict's keys. -/
namespace SrtL
open PySem PyProof.Rows SrtO
section
variable {prog : Program} {w : World} {A : Around} {E : Value → Shared → Prop} {s : Shared} {Q : Bool → Shared → Prop}
theorem lexI {b : Bool} {xs ys : List Value} {ns ms : List Int} (i : Nat) (hx : IntsAre xs ns) (hy : IntsAre ys ms) (hl : ns.length = ms.length)
    (h : Q (HT.lexLt ns ms) s) : PySem.W.KatLex prog w A b false Q (xs.zip ys) i s := by
  induction hx generalizing ys ms i with
  | nil =>
    cases hy with
    | nil => rw [HT.lexLt_nil_nil] at h; exact PySem.W.kat_nil h
    | cons q u hy => simp at hl
  | @cons p t xs ns hx ih =>
    cases hy with
    | nil => simp at hl
    | @cons q u ys ms hy =>
      have hl' : ns.length = ms.length := by simpa using hl
      show PySem.W.KatLex prog w A b false Q ((Value.int p t, Value.int q u) :: xs.zip ys) i s
      rw [HT.lexLt_cons] at h
      refine PySem.W.kat_cons (wpAny_eqBool_int ?_)
      by_cases e : p = q
      · subst e
        rw [beq_self_eq_true]
        rw [if_pos rfl] at h
        exact PySem.W.kat_yes (ih (i + 1) hy hl' h)
      · rw [show (p == q) = false from beq_eq_false_iff_ne.mpr e]
        rw [if_neg e] at h
        exact PySem.W.kat_no (TS.oneLt_ints _ h)
/-- tuples of d ints -/
def TupsD (h : Heap) (d : Nat) (k : Value → List Int) (vs : List Value) : Prop := ∀ v ∈ vs, TS.TupInts h v (k v) ∧ (k v).length = d
theorem TupsD.keeps {h h' : Heap} {d : Nat} {k : Value → List Int} {vs : List Value} (x : TupsD h d k vs) (kp : ∀ b o, h.get? b = some o → o.cls = .type "tuple" → h'.get? b = some o) : TupsD h' d k vs := fun v hv =>
  ⟨(x v hv).1.keeps kp, (x v hv).2⟩
theorem firsts {h : Heap} {d : Nat} {k : Value → List Int} (hd : 1 ≤ d) : ∀ vs : List Value, TupsD h d k vs → ∃ fs, PySem.W.KatTups h vs fs ∧ fs.length = vs.length ∧ ∀ f, f ∈ fs → ∃ n t, f = Value.int n t
  | [], _ => ⟨[], PySem.W.KatTups.nil, rfl, fun f hf => by simp at hf⟩
  | v :: vs, x => by
    obtain ⟨fs, kk, hl, hi⟩ := firsts hd vs fun u hu => x u (List.mem_cons_of_mem _ hu)
    obtain ⟨⟨a, xs, rfl, ⟨o, ho, hc, n, hdt⟩, i⟩, hn⟩ := x v List.mem_cons_self
    obtain ⟨y, ys, e⟩ : ∃ y ys, xs.toList = y :: ys := by
      cases q : xs.toList with
      | nil =>
        rw [q] at i
        have l := i.length
        rw [List.length_nil, hn] at l
        omega
      | cons y ys => exact ⟨y, ys, rfl⟩
    obtain ⟨m, t, hy⟩ := i.all y (by rw [e]; exact List.mem_cons_self)
    refine ⟨y :: fs, PySem.W.KatTups.cons ho hc hdt ?_ kk, by simp [hl], ?_⟩
    · have z := congrArg (fun l : List Value => l[0]?) e
      simpa using z
    · intro f hf
      rcases List.mem_cons.mp hf with rfl | hf
      · exact ⟨m, t, hy⟩
      · exact hi f hf
abbrev lexK {α : Type} (k : α → List Int) (v u : α) : Bool := HT.lexLt (k v) (k u)
theorem tups_sortable {a : Addr} {vs : List Value} {d : Nat} {k : Value → List Int} (hd : 1 ≤ d) (h0 : 0 < vs.length) (hp : TupsD s.heap d k vs) (ha : ∀ o, s.heap.get? a = some o → o.cls ≠ .type "tuple") : SortableO prog w A s a vs (lexK k) := by
  intro h' keep
  have hp' : TupsD h' d k vs := hp.keeps fun b o e c => keep b o (fun z => by subst z; exact ha o e c) e
  obtain ⟨fs, h1, h2, h3⟩ := firsts hd vs hp'
  refine ⟨tuples' true, fun Q E hq => ?_, ?_⟩
  · refine PySem.W.kat_kind (T := .type "int") h1 (by omega) (fun f hm => ?_) (by rfl) ?_
    · obtain ⟨x, t, rfl⟩ := h3 f hm
      exact PySem.W.Looks.now
    · have e : (Value.type "int" != Value.type "tuple") = true := by first | decide +kernel | rfl | decide
      rw [e]
      exact hq
  · intro p q hm hm'
    obtain ⟨⟨a1, xs, e1, ⟨o, ho, hc, n, hdt⟩, i⟩, l1⟩ := hp' _ hm
    obtain ⟨⟨a2, ys, e2, ⟨o', ho', hc', n', hdt'⟩, i'⟩, l2⟩ := hp' _ hm'
    have goal : ∀ (u v : Value), u = .ref a1 → v = .ref a2 → wpAny (model prog w) A (keyLt' (tuples' true) u v) (fun r s' => s' = { s with heap := h' } ∧ r = HT.lexLt (k p.1) (k q.1)) (fun _ _ => False) { s with heap := h' } := by
      rintro u v rfl rfl
      refine PySem.W.kat_lt (s := { s with heap := h' }) ho hdt ho' hdt' ?_
      have sz : decide (xs.size < ys.size) = false := by
        have z1 := i.length
        have z2 := i'.length
        rw [Array.length_toList] at z1 z2
        exact decide_eq_false (by omega)
      rw [sz]
      exact lexI 0 i i' (by omega) ⟨rfl, rfl⟩
    exact goal _ _ e1 e2
theorem sorted_tups {l : Addr} {vs : List Value} {d : Nat} {k : Value → List Int} {Q : Value → Shared → Prop} (hd : 1 ≤ d) (hl : s.heap.IsList l vs.toArray) (hz : vs.length ≤ sizeLine) (hp : TupsD s.heap d k vs)
    (h : ∀ (h' : Heap) (d : Addr) (out : List Value), Srtd (lexK k) out → Stb (lexK k) out vs → (∀ b o, s.heap.get? b = some o → h'.get? b = some o) → s.heap.objs.size ≤ d → (∃ n, h'.get? d = some (seqObj "list" out.toArray n)) → Q (.ref d) { s with heap := h' }) :
    wpAny (model prog w) A (call (.builtin "sorted") [.ref l]) Q E s := by
  refine sorted_ord (NtL.swo_lexL k) hl hz (fun h2 h₁ a ha kk => ?_) fun out hs hb => ?_
  · refine tups_sortable (s := { s with heap := h₁ }) hd (by omega) (hp.keeps fun b o e _ => (kk b o e).2) fun o e => ?_
    have e' : some o = some (seqObj "list" vs.toArray 0) := e.symm.trans ha
    cases e'
    intro c
    exact absurd (Value.type.inj c) (by decide)
  · exact h _ _ out hs hb (fun b o e => sortedAll_old e) (Nat.le_succ _) (sortedAll_at s.heap vs out.toArray)
end
end SrtL
namespace L2
open PySem PySem.Spec PyProof.Rows
/-- sorted(xs), xs a list of tuples of d ints (k says which): a new list, sorted -/
def rSortedL (K : PySem.W.Frag) : List V → Hp → VK → Prop := fun vs H Q => ∃ (a : Addr) (xs : List V) (d : Nat) (k : V → List Int), 1 ≤ d ∧ vs = [V.ref a] ∧ SqL K H a xs ∧ (∀ x ∈ xs, ∃ t, x = V.ref t ∧ H t = some (.tup ((k x).map V.int)) ∧ (k x).length = d) ∧
  ∀ ys p, SrtO.Srtd (SrtL.lexK k) ys → ys.Perm xs → ys.length ≤ sizeLine → H p = none → Q (.ref p) (upd H p (.lst ys))
theorem tupInts_of {X : Cx} {pins : List (Addr × Obj)} {σ : St} {H : Hp} {s : Shared} (I : Inv X pins σ H s) {t : Addr} {ns : List Int} (ht : H t = some (.tup (ns.map V.int))) : TS.TupInts s.heap (.ref t) ns := by
  obtain ⟨_, its2, r2, o, ho, hc, n, hd⟩ := I.hok _ _ ht
  exact ⟨t, its2.toArray, rfl, ⟨o, ho, hc, n, hd⟩, r2.ints⟩
section
variable {X : Cx}
theorem cr_sortedL : CallR X (.builtin "sorted") (rSortedL X.K) := by
  intro pins s σ H vs us Q I r h
  obtain ⟨a, xs, d, k, hd, rfl, hs, hx, q⟩ := h
  obtain ⟨its, rv, hl, hz⟩ := I.list hs
  obtain ⟨u, rfl, ru⟩ := vals1 r
  obtain rfl : u = Value.ref a := ru
  obtain ⟨e1, e2⟩ := refs_back rv fun x m => by
    obtain ⟨t, e, _⟩ := hx x m
    exact ⟨t, e⟩
  refine SrtL.sorted_tups (d := d) (k := fun u => k (backV u)) hd hl.isList (by rw [← rv.length]; exact hz) (fun v hv => ?_) fun h' d out h1 h2 kp hd hn => ?_
  · obtain ⟨t, rfl⟩ := e2 v hv
    have hm : V.ref t ∈ xs := by rw [e1]; exact List.mem_map.mpr ⟨_, hv, rfl⟩
    obtain ⟨t', e, ht, hlen⟩ := hx _ hm
    cases e
    exact ⟨tupInts_of I ht, hlen⟩
  · have h3 : ∀ u ∈ out, ∃ a, u = Value.ref a := fun u hu => e2 u (h2.perm.mem_iff.mp hu)
    obtain ⟨n, hn⟩ := hn
    have hp : (out.map backV).Perm xs := by
      rw [e1]
      exact h2.perm.map backV
    have hlen : (out.map backV).length ≤ sizeLine := by rw [hp.length_eq]; exact hz
    exact ⟨.ref d, upd H d (.lst (out.map backV)), I.laid (t' := s.toks) kp hd ⟨hlen, out, n, vals_back h3, hn⟩, rfl, q _ d (List.pairwise_map.mpr h1) hp hlen (I.hok.fresh hd)⟩
end
end L2
namespace Vl
open PySem PySem.Spec PyProof.Rows L2
def tupI (ns : List Int) : D := .tup (ns.map .int)
def intV : V → Int
  | .int i => i
  | _ => 0
/-- the ints of a tuple, read off a heap -/
def kF (F : Hp) : V → List Int
  | .ref t => match F t with
    | some (.tup vs) => vs.map intV
    | _ => []
  | _ => []
theorem intV_map : ∀ ns : List Int, (ns.map V.int).map intV = ns
  | [] => rfl
  | n :: ns => by rw [List.map_cons, List.map_cons, intV_map ns]; rfl
theorem kF_of {F : Hp} {t : Addr} {ns : List Int} (h : F t = some (.tup (ns.map V.int))) : kF F (.ref t) = ns := by
  simp only [kF, h]; exact intV_map ns
section
variable {T : Tb} {F : Hp}
theorem rep_tupI {v : V} {ns : List Int} (r : Rep T F v (tupI ns)) : ∃ t, v = .ref t ∧ F t = some (.tup (ns.map V.int)) := by
  cases r with
  | tup h r => rw [reps_ints r] at h; exact ⟨_, rfl, h⟩
theorem reps_kF : ∀ {vs : List V} {ks : List (List Int)}, Reps T F vs (ks.map tupI) → vs.map (kF F) = ks ∧ ∀ x ∈ vs, ∃ t, x = .ref t ∧ F t = some (.tup ((kF F x).map V.int)) ∧ kF F x ∈ ks
  | _, [], .nil => ⟨rfl, fun _ h => nomatch h⟩
  | _, k :: ks, .cons r t => by
    obtain ⟨h1, h2⟩ := reps_kF t
    obtain ⟨p, rfl, hp⟩ := rep_tupI r
    refine ⟨by rw [List.map_cons, h1, kF_of hp], fun x hx => ?_⟩
    rcases List.mem_cons.mp hx with rfl | hx
    · exact ⟨p, rfl, by rw [kF_of hp]; exact hp, by rw [kF_of hp]; exact List.mem_cons_self⟩
    · obtain ⟨t, e, a, b⟩ := h2 x hx
      exact ⟨t, e, a, List.mem_cons_of_mem _ b⟩
theorem reps_of_kF : ∀ {ys : List V}, (∀ x ∈ ys, ∃ t, x = .ref t ∧ F t = some (.tup ((kF F x).map V.int))) → Reps T F ys ((ys.map (kF F)).map tupI)
  | [], _ => .nil
  | y :: ys, h => by
    obtain ⟨t, e, ht⟩ := h y List.mem_cons_self
    refine .cons ?_ (reps_of_kF fun x hx => h x (List.mem_cons_of_mem _ hx))
    rw [e] at ht ⊢
    exact .tup ht (reps_of_ints _)
end
/-- sorted(xs), tuples of d ints -/
def fSortT : List W → (W → Prop) → Prop := one fun w Q => ∃ (d : Nat) (ks : List (List Int)), 1 ≤ d ∧ lstC w = some (ks.map tupI) ∧ (∀ k ∈ ks, k.length = d) ∧ ∀ ms : List (List Int), ms.Perm ks → ms.Pairwise (fun a b => HT.lexLt b a = false) → Q (.fr (.fl (ms.map tupI)))
theorem c_sortT {T : Tb} : CallV T (rSortedL T.K) fSortT := by
  intro G F H F' H' xs ws P Q g r h k
  obtain ⟨x, w, rfl, rfl, rx, h⟩ := one_inv h r
  obtain ⟨d, ks, hd, es, hl, q⟩ := h
  obtain ⟨p, vs, rfl, hs, rr⟩ := rx.lst g.ex es
  obtain ⟨e1, e2⟩ := reps_kF rr
  refine ⟨p, vs, d, kF F', hd, rfl, hs, fun x hx => ?_, fun ys l hy hp hz hl2 => ?_⟩
  · obtain ⟨t, e, a, b⟩ := e2 x hx
    exact ⟨t, e, g.ex _ _ a, hl _ b⟩
  · refine new_list g (reps_of_kF fun x hx => ?_) (q (ys.map (kF F')) (by rw [← e1]; exact hp.map _) (List.pairwise_map.mpr hy)) k hl2
    obtain ⟨t, e, a, _⟩ := e2 x (hp.mem_iff.mp hx)
    exact ⟨t, e, a⟩
end Vl
namespace L2
open PySem PySem.Spec PyProof.Rows Vl
/-- sorted(d), d a dict whose keys are tuples of n ints -/
def rSortedDT : List V → Hp → VK → Prop := fun vs H Q => ∃ (a : Addr) (kvs : List (List Key × V)) (n : Nat) (ks : List (List Int)), 1 ≤ n ∧ vs = [V.ref a] ∧ Rd H a (.dT kvs) ∧ kvs.map (·.1) = ks.map (fun k => k.map Sum.inl) ∧ (∀ k ∈ ks, k.length = n) ∧
  ∀ (ys : List V) (p : Addr), (∀ y ∈ ys, ∃ t, y = V.ref t ∧ H t = some (.tup ((kF H y).map V.int))) → (ys.map (kF H)).Perm ks → SrtO.Srtd (SrtL.lexK (kF H)) ys → ys.length ≤ sizeLine → H p = none → Q (.ref p) (upd H p (.lst ys))
section
variable {X : Cx}
theorem kt_keys {H : Hp} {kvs : List (List Key × V)} {xs : List (List Key × Addr × Value)} (r : KT H kvs xs) : ∀ {ks : List (List Int)}, kvs.map (·.1) = ks.map (fun k => k.map Sum.inl) →
    (xs.map fun x => V.ref x.2.1).map (kF H) = ks ∧ ∀ y ∈ xs.map (fun x => V.ref x.2.1), ∃ t, y = V.ref t ∧ H t = some (.tup ((kF H y).map V.int)) ∧ kF H y ∈ ks := by
  induction r with
  | nil => intro ks e; cases ks with
    | nil => exact ⟨rfl, fun _ h => nomatch h⟩
    | cons _ _ => cases e
  | cons h t ih =>
    intro ks e
    cases ks with
    | nil => cases e
    | cons k ks =>
      rw [List.map_cons, List.map_cons] at e
      injection e with e1 e2
      obtain ⟨q1, q2⟩ := ih e2
      have hb := h.2.1
      rw [e1, List.map_map] at hb
      have hb : H _ = some (.tup (k.map V.int)) := hb
      refine ⟨by rw [List.map_cons, List.map_cons, q1, kF_of hb], fun y hy => ?_⟩
      rw [List.map_cons] at hy
      rcases List.mem_cons.mp hy with rfl | hy
      · exact ⟨_, rfl, by rw [kF_of hb]; exact hb, by rw [kF_of hb]; exact List.mem_cons_self⟩
      · obtain ⟨t, e, a, b⟩ := q2 y hy
        exact ⟨t, e, a, List.mem_cons_of_mem _ b⟩
theorem cr_sortedDT (hcalm : X.calm = true) : CallR X (.builtin "sorted") rSortedDT := by
  intro pins s σ H vs us Q I r h
  obtain ⟨a, kvs, n, ks, hn, rfl, hd, hks, hln, q⟩ := h
  obtain ⟨u, rfl, rx⟩ := vals1 r
  cases rx
  obtain ⟨z, hs, xs, pr, o, es, ep, ho, hx, hdt, he, hnn⟩ := (show ObjOk X.prog X.w H s.heap a (.dT kvs) from hd.ok I.hok)
  have l1 : es.size = xs.length := size_of_entries he
  have l2 : kvs.length = xs.length := Paired.length pr
  obtain ⟨k1, k2⟩ := kt_keys pr hks
  refine Calls.call_function_entry PyProof.Rows.kind_sorted PyProof.Rows.plain_sorted PyProof.Rows.entry_sorted (PyProof.Rows.args_sorted1 _) ?_
  unfold Builtin.«sorted»
  refine wpAny_bind (m := checkCount "sorted" 1 1 _) (wpAny_pure ?_)
  refine wpAny_bind (PySem.W.kdu_collect (A := X.A.in1) (kdl_raw hs hx hdt) (I.ok.hd hcalm) ho (by omega) fun h' tk acc hk hacc => ?_)
  have ea : acc.toList = xs.map fun x => Value.ref x.2.1 := by
    have hl : acc.toList.length = xs.length := by rw [Array.length_toList, hacc.1]; exact l1
    apply List.ext_getElem?
    intro j
    rw [List.getElem?_map]
    cases hj : acc.toList[j]? with
    | none =>
      have h1 := List.getElem?_eq_none_iff.mp hj
      rw [List.getElem?_eq_none (by omega)]
      all_goals rfl
    | some v =>
      obtain ⟨en, hen, hv⟩ := hacc.2 j v (by rw [← Array.getElem?_toList]; exact hj)
      have qe := entry_at he j
      rw [hen] at qe
      cases hb : xs[j]? with
      | none =>
        rw [hb] at qe
        exact nomatch (show some en = none from qe)
      | some b =>
        rw [hb] at qe
        have e2 : en = entryOfKey (tupleKind (mixKind X.prog X.w)) b := Option.some.inj qe
        rw [hv, e2]
        all_goals rfl
  have I1 : Inv X pins σ H { s with heap := h', toks := tk } := I.kept hk
  have hz : acc.toList.length ≤ sizeLine := by rw [ea, List.length_map]; omega
  refine wpAny_bind (wpAny_newList ?_ hz)
  have hoL : (h'.push (seqObj "list" acc.toList.toArray 0)).get? h'.objs.size = some (seqObj "list" acc.toList.toArray 0) := Heap.get?_push_size _ rfl
  show wpAny _ _ _ _ _ { s with heap := h'.push (seqObj "list" acc.toList.toArray 0), toks := tk }
  have back : ∀ v ∈ acc.toList, ∃ t, v = Value.ref t ∧ V.ref t ∈ xs.map fun x => V.ref x.2.1 := fun v hv => by
    rw [ea] at hv
    obtain ⟨x, hx, rfl⟩ := List.mem_map.mp hv
    exact ⟨_, rfl, List.mem_map.mpr ⟨x, hx, rfl⟩⟩
  refine wpAny_bind (wpAny_holding (wpAny_call_entry PyProof.Rows.slot_list_sort ⟨_, hoL, rfl⟩ PyProof.Rows.entry_list_sort
    (SrtO.list_sort_ord (s := { s with heap := h'.push (seqObj "list" acc.toList.toArray 0), toks := tk }) (NtL.swo_lexL fun u => kF H (backV u)) hoL hz (fun h2 => SrtL.tups_sortable (d := n) hn (by omega) (fun v hv => ?_) fun o' e => ?_) fun out g1 g2 => ⟨_, rfl, ?_⟩) (PyProof.Rows.args_list_sort _)))
  · obtain ⟨t, rfl, ht⟩ := back v hv
    obtain ⟨t', e, hb, hm⟩ := k2 _ ht
    cases e
    exact ⟨(tupInts_of I1 hb).keeps fun b o e _ => Heap.get?_push_of_some _ e, hln _ hm⟩
  · have e' : some o' = some (seqObj "list" acc.toList.toArray 0) := e.symm.trans hoL
    cases e'
    intro c
    exact absurd (Value.type.inj c) (by decide)
  · obtain ⟨e', he'⟩ := PyProof.Rows.sortedHeap_at (vs := acc.toList) (out := out.toArray) hoL
    have hp : (out.map backV).Perm (xs.map fun x => V.ref x.2.1) := by
      have := g2.perm.map backV
      rw [ea, List.map_map] at this
      exact this
    have h3 : ∀ u ∈ out, ∃ a, u = Value.ref a := fun u hu => by
      obtain ⟨t, e, _⟩ := back u (g2.perm.mem_iff.mp hu)
      exact ⟨t, e⟩
    have hlen : (out.map backV).length ≤ sizeLine := by rw [hp.length_eq, List.length_map]; omega
    refine wpAny_pure ⟨_, rfl, .ref h'.objs.size, upd H h'.objs.size (.lst (out.map backV)), I1.laid (t' := tk) (fun b u e => ?_) (Nat.le_refl _)
      (show ObjOk X.prog X.w _ _ _ (.lst (out.map backV)) from ⟨hlen, out, e', vals_back h3, he'⟩), rfl, q _ _ (fun y hy => ?_) (by rw [← k1]; exact hp.map _) (List.pairwise_map.mpr g1) hlen (I1.hok.fresh (Nat.le_refl _))⟩
    · have hb : b < h'.objs.size := Heap.lt_size e
      rw [PyProof.Rows.sortedHeap_old (Nat.ne_of_lt hb) (by rw [size_push']; exact Nat.lt_succ_of_lt hb)]
      exact Heap.get?_push_of_some _ e
    · obtain ⟨t, e, hb, _⟩ := k2 y (hp.mem_iff.mp hy)
      exact ⟨t, e, hb⟩
end
end L2
namespace L2
open PySem PySem.Spec PyProof.Rows Vl
def rMinDK : List V → Hp → VK → Prop := fun vs H Q => ∃ (a : Addr) (kvs : List (Key × V)) (ns : List Int), vs = [V.ref a] ∧ Rd H a (.dK kvs) ∧ kvs.map (·.1) = ns.map Sum.inl ∧ 0 < ns.length ∧ ∀ m, m ∈ ns → (∀ y ∈ ns, m ≤ y) → Q (.int m) H
def rMaxDK : List V → Hp → VK → Prop := fun vs H Q => ∃ (a : Addr) (kvs : List (Key × V)) (ns : List Int), vs = [V.ref a] ∧ Rd H a (.dK kvs) ∧ kvs.map (·.1) = ns.map Sum.inl ∧ 0 < ns.length ∧ ∀ m, m ∈ ns → (∀ y ∈ ns, y ≤ m) → Q (.int m) H
section
variable {X : Cx} {pins : List (Addr × Obj)} {σ : St} {H : Hp} {s : Shared} {a : Addr} {kvs : List (Key × V)} {ns : List Int}
theorem key_ints {vs : List (Key × Value)} (h : vs.map (·.1) = ns.map Sum.inl) {i : Nat} {v : Value} (q : ∃ k x, vs[i]? = some (k, x) ∧ keyIs k v = true) : ∃ t, i < ns.length ∧ v = .int (ns.getD i 0) t := by
  obtain ⟨k, x, e1, e2⟩ := q
  have e3 : (vs.map (·.1))[i]? = some k := by rw [List.getElem?_map, e1]; rfl
  rw [h, List.getElem?_map] at e3
  cases e4 : ns[i]? with
  | none => rw [e4] at e3; cases e3
  | some y =>
    rw [e4] at e3
    have e5 : Sum.inl y = k := Option.some.inj e3
    subst e5
    rcases keyIs_shape (show keyIs (Sum.inl y) v = true from e2) with ⟨j, t, ek, ev⟩ | ⟨z, t, ek, ev⟩
    · cases ek
      exact ⟨t, (List.getElem?_eq_some_iff.mp e4).1, by rw [List.getD_eq_getElem?_getD, e4]; exact ev⟩
    · cases ek
theorem getD_all {P : Int → Prop} (h : ∀ j, j < ns.length → P (ns.getD j 0)) : ∀ y ∈ ns, P y := fun y hy => by
  obtain ⟨j, hj, rfl⟩ := List.getElem_of_mem hy
  have := h j hj
  rw [List.getD_eq_getElem?_getD, List.getElem?_eq_getElem hj] at this
  exact this
theorem getD_mem' {j : Nat} (hj : j < ns.length) : ns.getD j 0 ∈ ns := by
  rw [List.getD_eq_getElem?_getD, List.getElem?_eq_getElem hj]; exact List.getElem_mem hj
end
section
variable {X : Cx}
theorem cr_minDK (hc : X.calm = true) : CallR X (.builtin "min") rMinDK := by
  intro pins s σ H vs us Q I r h
  obtain ⟨a, kvs, ns, rfl, hd, hks, hne, q⟩ := h
  obtain ⟨u, rfl, rx⟩ := vals1 r
  cases rx
  obtain ⟨z, lo, ws, rel, dd⟩ := dk_rd I.hok hd
  obtain ⟨ep, hat⟩ := dd.dictAt
  have hkeys : ws.map (·.1) = ns.map Sum.inl := rel.keys.symm.trans hks
  have hl : ws.length = ns.length := by
    have e := congrArg List.length hkeys
    rw [List.length_map, List.length_map] at e
    exact e
  obtain ⟨oI, St, hit, W, st0⟩ := (PySem.W.kdl_dict (knd := mixKind X.prog X.w) (kvs := ws) (ep := ep) lo).iter X.A.in1 s (I.ok.hd hc) hat
  have W' : WalksS X.prog X.w X.A.in1 s.heap.objs.size [s.heap.objs.size, a] [s.heap.objs.size] (fun a b => b = a) ws.length _ _ := W.toS
  refine PySem.call_min_walkH (hit _ _ ⟨_, _, _, _, _, _, _, s.heap, (fun i j => decide (ns.getD i 0 < ns.getD j 0)), rfl, W', st0, fun b hb => ?_, by omega, fun b o e hb => ?_, fun b o e => Heap.get?_push_of_some _ e, ?_, fun v s' hP m => ?_⟩)
  · rw [Heap.size_push]
    rcases List.mem_cons.mp hb with rfl | hb
    · exact Nat.lt_succ_self _
    · rw [List.mem_singleton.mp hb]; exact Nat.lt_succ_of_lt hat.lt_size
  · rw [List.mem_singleton.mp hb] at e
    exact absurd (Heap.lt_size e) (Nat.lt_irrefl _)
  · intro i j vi vj s' Q' E' hk hi hj hq
    obtain ⟨t, _, rfl⟩ := key_ints hkeys hi
    obtain ⟨t', _, rfl⟩ := key_ints hkeys hj
    exact PyProof.Rows.lt_int hq
  · obtain ⟨h', tk, rfl, hk'⟩ := PySem.W.moved_old rfl rfl m
    obtain ⟨t, hi, rfl⟩ := key_ints hkeys hP
    obtain ⟨h1, h2⟩ := argBest_lt (fun i => ns.getD i 0) (ws.length - 1)
    exact ⟨.int _, H, I.kept hk', ⟨t, rfl⟩, q _ (getD_mem' hi) (getD_all fun j hj => h2 j (by omega))⟩
theorem cr_maxDK (hc : X.calm = true) : CallR X (.builtin "max") rMaxDK := by
  intro pins s σ H vs us Q I r h
  obtain ⟨a, kvs, ns, rfl, hd, hks, hne, q⟩ := h
  obtain ⟨u, rfl, rx⟩ := vals1 r
  cases rx
  obtain ⟨z, lo, ws, rel, dd⟩ := dk_rd I.hok hd
  obtain ⟨ep, hat⟩ := dd.dictAt
  have hkeys : ws.map (·.1) = ns.map Sum.inl := rel.keys.symm.trans hks
  have hl : ws.length = ns.length := by
    have e := congrArg List.length hkeys
    rw [List.length_map, List.length_map] at e
    exact e
  obtain ⟨oI, St, hit, W, st0⟩ := (PySem.W.kdl_dict (knd := mixKind X.prog X.w) (kvs := ws) (ep := ep) lo).iter X.A.in1 s (I.ok.hd hc) hat
  have W' : WalksS X.prog X.w X.A.in1 s.heap.objs.size [s.heap.objs.size, a] [s.heap.objs.size] (fun a b => b = a) ws.length _ _ := W.toS
  refine PySem.call_max_walkH (hit _ _ ⟨_, _, _, _, _, _, _, s.heap, (fun i j => decide (ns.getD i 0 > ns.getD j 0)), rfl, W', st0, fun b hb => ?_, by omega, fun b o e hb => ?_, fun b o e => Heap.get?_push_of_some _ e, ?_, fun v s' hP m => ?_⟩)
  · rw [Heap.size_push]
    rcases List.mem_cons.mp hb with rfl | hb
    · exact Nat.lt_succ_self _
    · rw [List.mem_singleton.mp hb]; exact Nat.lt_succ_of_lt hat.lt_size
  · rw [List.mem_singleton.mp hb] at e
    exact absurd (Heap.lt_size e) (Nat.lt_irrefl _)
  · intro i j vi vj s' Q' E' hk hi hj hq
    obtain ⟨t, _, rfl⟩ := key_ints hkeys hi
    obtain ⟨t', _, rfl⟩ := key_ints hkeys hj
    exact PyProof.Rows.gt_int hq
  · obtain ⟨h', tk, rfl, hk'⟩ := PySem.W.moved_old rfl rfl m
    obtain ⟨t, hi, rfl⟩ := key_ints hkeys hP
    obtain ⟨h1, h2⟩ := argBest_gt (fun i => ns.getD i 0) (ws.length - 1)
    exact ⟨.int _, H, I.kept hk', ⟨t, rfl⟩, q _ (getD_mem' hi) (getD_all fun j hj => h2 j (by omega))⟩
end
end L2
namespace Vl
open PySem PySem.Spec PyProof.Rows L2
def keyI (n : Int) : List Key := [Sum.inl n]
def keyIs' (ns : List Int) : List Key := ns.map Sum.inl
theorem keys_flat {kvs : List (Key × V)} {ns : List Int} (h : ns.map keyI = kvs.map fun p => [p.1]) : kvs.map (·.1) = ns.map Sum.inl := by
  have h2 : (kvs.map (·.1)).map (fun k : Key => [k]) = (ns.map Sum.inl).map (fun k : Key => [k]) := by
    rw [List.map_map, List.map_map]; exact h.symm
  exact (List.map_inj_right fun x y e => by injection e).mp h2
/-- min(d), max(d), d a dict whose keys are ints -/
def fMinD : List W → (W → Prop) → Prop := one fun w Q => ∃ (ns : List Int) (us : List W), kidsW w = some (false, ns.map keyI, us) ∧ 0 < ns.length ∧ ∀ m, m ∈ ns → (∀ y ∈ ns, m ≤ y) → Q (.cl (.int m))
def fMaxD : List W → (W → Prop) → Prop := one fun w Q => ∃ (ns : List Int) (us : List W), kidsW w = some (false, ns.map keyI, us) ∧ 0 < ns.length ∧ ∀ m, m ∈ ns → (∀ y ∈ ns, y ≤ m) → Q (.cl (.int m))
/-- sorted(d), d a dict whose keys are tuples of n ints -/
def fSortDT : List W → (W → Prop) → Prop := one fun w Q => ∃ (n : Nat) (ks : List (List Int)) (us : List W), 1 ≤ n ∧ kidsW w = some (true, ks.map keyIs', us) ∧ (∀ k ∈ ks, k.length = n) ∧ ∀ ms : List (List Int), ms.Perm ks → ms.Pairwise (fun a b => HT.lexLt b a = false) → Q (.fr (.fl (ms.map tupI)))
section
variable {T : Tb}
theorem c_minD : CallV T rMinDK fMinD := by
  intro G F H F' H' xs ws P Q g r h k
  obtain ⟨x, w, rfl, rfl, rx, h⟩ := one_inv h r
  obtain ⟨ns, us, hw, hne, q⟩ := h
  obtain ⟨p, ob, vs, rfl, hp, ⟨_, hd⟩, hl, _⟩ := rx.kids g.ex hw
  obtain ⟨kvs, rfl, e, rfl⟩ := hd
  exact ⟨p, kvs, ns, rfl, .inl hp, keys_flat e, hne, fun m h1 h2 => k _ (q m h1 h2) _ _ _ g (.int _)⟩
theorem c_maxD : CallV T rMaxDK fMaxD := by
  intro G F H F' H' xs ws P Q g r h k
  obtain ⟨x, w, rfl, rfl, rx, h⟩ := one_inv h r
  obtain ⟨ns, us, hw, hne, q⟩ := h
  obtain ⟨p, ob, vs, rfl, hp, ⟨_, hd⟩, hl, _⟩ := rx.kids g.ex hw
  obtain ⟨kvs, rfl, e, rfl⟩ := hd
  exact ⟨p, kvs, ns, rfl, .inl hp, keys_flat e, hne, fun m h1 h2 => k _ (q m h1 h2) _ _ _ g (.int _)⟩
theorem c_sortDT : CallV T rSortedDT fSortDT := by
  intro G F H F' H' xs ws P Q g r h k
  obtain ⟨x, w, rfl, rfl, rx, h⟩ := one_inv h r
  obtain ⟨n, ks, us, hn, hw, hl, q⟩ := h
  obtain ⟨p, ob, vs, rfl, hp, ⟨_, hd⟩, _, _⟩ := rx.kids g.ex hw
  obtain ⟨kvs, rfl, e, rfl⟩ := hd
  refine ⟨p, kvs, n, ks, hn, rfl, .inl hp, e.symm, hl, fun ys l hy hpm hs hz hl2 => ?_⟩
  -- the keys become clean
  let A : List Addr := ys.map fun y => match y with | .ref t => t | _ => l
  have inA : ∀ y ∈ ys, ∀ t, y = V.ref t → t ∈ A := fun y hy' t e => List.mem_map.mpr ⟨y, hy', by rw [e]⟩
  have tupA : ∀ a ∈ A, ∃ vs, H' a = some (.tup vs) := fun a ha => by
    obtain ⟨y, hy', e⟩ := List.mem_map.mp ha
    obtain ⟨t, e2, ht⟩ := hy y hy'
    rw [e2] at e
    have e : t = a := e
    exact ⟨_, e ▸ ht⟩
  let F2 : Hp := fun a => if a ∈ A then H' a else F' a
  have s2 : Same F' F2 := fun a o e => by
    show (if a ∈ A then H' a else F' a) = _
    split
    · exact g.ex _ _ e
    · exact e
  have g2 : Go F H F2 H' := by
    refine ⟨g.h, g.f.trans s2, fun a o e => ?_, fun a ha na => ?_⟩
    · have e : (if a ∈ A then H' a else F' a) = some o := e
      split at e
      · exact e
      · exact g.ex _ _ e
    · show (if a ∈ A then H' a else F' a) = _
      split
      · rename_i h1
        obtain ⟨vs, e⟩ := tupA a h1
        exact absurd ((Same.at g.h ha).symm.trans e) (na vs)
      · exact g.n a ha na
  have f2 : ∀ y ∈ ys, ∃ t, y = V.ref t ∧ F2 t = some (.tup ((kF F2 y).map V.int)) ∧ kF F2 y = kF H' y := fun y hy' => by
    obtain ⟨t, e, ht⟩ := hy y hy'
    have e1 : F2 t = some (.tup ((kF H' y).map V.int)) := (if_pos (inA y hy' t e)).trans ht
    have e2 : kF F2 y = kF H' y := by rw [e] at e1 ⊢; exact kF_of e1
    exact ⟨t, e, by rw [e2]; exact e1, e2⟩
  have em : ys.map (kF F2) = ys.map (kF H') := List.map_congr_left fun y hy' => (f2 y hy').choose_spec.2.2
  refine new_list g2 (reps_of_kF fun x hx => ?_) (q (ys.map (kF F2)) (by rw [em]; exact hpm) (by rw [em]; exact List.pairwise_map.mpr hs)) k hl2
  obtain ⟨t, e, a, _⟩ := f2 x hx
  exact ⟨t, e, a⟩
end
end Vl
set_option maxHeartbeats 4000000
/-! sorted(d.pop(k, [])) of an own dict; loops over an effect. -/
namespace Vl
open PySem PySem.Spec PyProof.Rows L2
section
variable {T : Tb} {F F' H H' : Hp}
theorem Owns.del (key : List Key) : ∀ {ks : List (List Key)} {vs : List V} {ms : List M} {C : List Addr}, Owns T F H vs ms C → ∃ C', Owns T F H (delVs ks vs key) (delVs ks ms key) C' ∧ ∀ a ∈ C', a ∈ C
  | [], [], [], _, .nil => ⟨[], .nil, fun _ h => h⟩
  | _ :: _, [], [], _, .nil => ⟨[], .nil, fun _ h => h⟩
  | [], _ :: _, _ :: _, _, .cons _ _ _ => ⟨[], .nil, fun _ h => nomatch h⟩
  | a :: ks, v :: vs, m :: ms, _, .cons (A := A) (B := B) o t d => by
    obtain ⟨C', t', h'⟩ := Owns.del key (ks := ks) t
    by_cases e : a = key
    · refine ⟨C', ?_, fun a q => List.mem_append_right _ (h' a q)⟩
      show Owns T F H (if a = key then delVs ks vs key else v :: delVs ks vs key) (if a = key then delVs ks ms key else m :: delVs ks ms key) C'
      rw [if_pos e, if_pos e]; exact t'
    · refine ⟨A ++ C', ?_, fun a q => ?_⟩
      · show Owns T F H (if a = key then delVs ks vs key else v :: delVs ks vs key) (if a = key then delVs ks ms key else m :: delVs ks ms key) (A ++ C')
        rw [if_neg e, if_neg e]; exact .cons o t' fun a q z => d a q (h' a z)
      · rcases List.mem_append.mp q with q | q
        · exact List.mem_append_left _ q
        · exact List.mem_append_right _ (h' a q)
theorem own_pop {p : Addr} {ks : List (List Key)} {ms : List M} {B : List Addr} {kvs : List (Key × V)} {k : Key} (o : Own T F H (.ref p) (.td false ks ms) B) (hp : H p = some (.dK kvs)) :
    ∃ B', Own T F (upd H p (.dK (dropK kvs k))) (.ref p) (.td false (delKs ks [k]) (delVs ks ms [k])) B' ∧ ∀ a ∈ B', a ∈ B := by
  obtain ⟨p', ob, vs, C, e, rfl, hp', hf, ⟨nd, hd⟩, hn, t⟩ := own_td o
  cases e
  rw [hp] at hp'; cases hp'
  obtain ⟨kvs', e, rfl, rfl⟩ := hd
  cases e
  obtain ⟨C', t', h'⟩ := Owns.del [k] (ks := kvs.map fun p => [p.1]) t
  refine ⟨p :: C', .td upd_same hf ⟨nd.sublist List.filter_sublist, dropK kvs k, rfl, ?_, ?_⟩ (fun q => hn (h' p q)) (t'.keep (Same.refl _) (fun a q => upd_ne fun z => hn (h' p (z ▸ q))) fun a q => (t'.mem a q).2), fun a q => ?_⟩
  · exact (drop_keys (e := fun k : Key => [k]) (fun a b h => one_inj a b h) kvs k).symm
  · exact (drop_valsV (e := fun k : Key => [k]) (fun a b h => one_inj a b h) kvs k).symm
  · rcases List.mem_cons.mp q with q | q
    · rw [q]; exact List.mem_cons_self
    · exact List.mem_cons_of_mem _ (h' a q)
end
theorem Own.root_mem {T : Tb} {F H : Hp} {p : Addr} {t : Bool} {ks : List (List Key)} {ms : List M} {B : List Addr} (o : Own T F H (.ref p) (.td t ks ms) B) : p ∈ B := by
  obtain ⟨p', _, _, _, e, rfl, _⟩ := own_td o
  cases e; exact List.mem_cons_self
/-- sorted(place.pop(k, [])): a dict with int keys, its values lists of tuples of ints -/
def xSortPop (pl : AP) (kx : AE) : AX := fun δ Q => pl δ fun i c m => match m with
  | .td false ks ms => kx δ fun z => ∃ n : Int, clW z = some (.int n) ∧ match getK ks ms [Sum.inl n] with
    | some m => ∃ (d : Nat) (ls : List (List Int)), 1 ≤ d ∧ m = .fl (ls.map tupI) ∧ (∀ k ∈ ls, k.length = d) ∧
      ∀ ls' : List (List Int), ls'.Perm ls → ls'.Pairwise (fun a b => HT.lexLt b a = false) → Q (.fr (.fl (ls'.map tupI))) (setP δ i (c (.td false (delKs ks [Sum.inl n]) (delVs ks ms [Sum.inl n]))))
    | none => Q (.fr (.fl [])) δ
  | .fd false [] [] => kx δ fun z => ∃ n : Int, clW z = some (.int n) ∧ Q (.fr (.fl [])) δ
  | _ => False
section
variable {T : Tb} {X : Cx} {o ke : Expr} {pl : AP} {kx : AE} {p lp apos cpos pos : Pos}
theorem x_sortPop (hTK : T.K = X.K) (hg : Gl X "sorted") (hm : X.mg "sorted" = none) (hv : bootBuiltins "sorted" = some (.builtin "sorted")) (ho : PE X o (rdP T pl)) (hk : PE X ke (rdE T kx)) (m : M2 X o "pop" apos ke (.List [] lp) cpos)
    (hdb : (("sorted" : Str) == ("__debug__" : Str)) = false := by decide) (hnn : ("sorted" : Str) ≠ "__name__" := by decide)
    (he : starEach [.Call (.Attribute o "pop" apos) [ke, .List [] lp] [] cpos] X.env = (false, eval (.Call (.Attribute o "pop" apos) [ke, .List [] lp] [] cpos) X.env) :: starEach [] X.env := by rfl)
    (hpl : (backTo pos (starEach [] X.env)).any (·.1) = false := by rfl) :
    PE X (.Call (.Name "sorted" p) [.Call (.Attribute o "pop" apos) [ke, .List [] lp] [] cpos] [] pos) (rdX T (xSortPop pl kx)) :=
  (pe_callB cr_sortedL hg hm hv (pa_cons (pe_dpop2 ho hk (e_lst (T := T) a_nil) m) pa_nil he) hnn hdb he hpl).mono fun σ H Q h => by
  obtain ⟨G, F, δ, P, R, h, k⟩ := h
  refine ⟨G, F, δ, _, R, h, fun i c mm hw F1 H1 g l m0 v A u B e1 e2 o S => ?_⟩
  clear h
  split at hw
  · rename_i ks ms
    obtain ⟨q, ob, vs0, C0, rfl, rfl, hq, _, hd0, _, _⟩ := own_td S.ow
    refine ⟨q, rfl, isD_of hd0 hq, G, F1, δ, _, R.go g, hw, fun w hz v2 F2 H2 g2 r2 => ?_⟩
    clear hw
    obtain ⟨n, hcl, hz⟩ := hz
    obtain ⟨F3, g3, r3⟩ := clW_rep g2 r2 hcl
    obtain rfl := rep_int r3
    have g13 : Go F H F3 H2 := g.trans g3
    have R3 := R.go g13
    have S3 := S.go g3
    have o3 := o.go g3
    refine ⟨G, F3, δ, fun w => w = .fr (.fl []), R3, ⟨by decide, rfl⟩, fun w hw3 v3 F4 H4 g4 r4 => ?_⟩
    subst hw3
    have g14 : Go F H F4 H4 := g13.trans g4
    have R4 := R.go g14
    have S4 := S3.go g4
    have o4 := o3.go g4
    obtain ⟨q', ob', vs, C, e, _, hp, hf, hd, hn, t⟩ := own_td S4.ow
    cases e
    obtain ⟨nd, kvs, rfl, rfl, rfl⟩ := hd
    have hval : valV kvs (Sum.inl n) = getK (kvs.map fun p => [p.1]) (kvs.map (·.2)) [Sum.inl n] := val_get (e := fun k : Key => [k]) (fun a b h => one_inj a b h) kvs _
    have hlen : (kvs.map fun p => [p.1]).length = ms.length := by
      have := t.length
      rw [List.length_map] at this ⊢
      exact this
    refine ⟨kvs, Sum.inl n, hp, rfl, fun u' hu => ?_, fun hu => ?_⟩
    · rw [hval] at hu
      cases hg2 : getK (kvs.map fun p => [p.1]) ms [Sum.inl n] with
      | none =>
        have := (getK_none (xs := kvs.map (·.2)) (by simp)).mpr ((getK_none hlen).mp hg2)
        rw [hu] at this; cases this
      | some mc =>
        rw [hg2] at hz
        obtain ⟨d, ls, hd1, rfl, hls, hz⟩ := hz
        obtain ⟨q2, ob2, vs2, u2, B2, e3, hp2, hd2, hu2, S5⟩ := sub_td S4.ow hg2
        cases e3
        rw [hp] at hp2; cases hp2
        obtain ⟨_, kvs2, e4, _, rfl⟩ := hd2
        cases e4
        rw [hu] at hu2; cases hu2
        obtain ⟨x, us, rfl, rfl, hx, hfx, rr⟩ := own_fl S5.ow
        have xq : x ≠ q := fun z => by
          have := S5.sub x List.mem_cons_self
          rw [z, hp] at hx; cases hx
        obtain ⟨ek, hk2⟩ := reps_kF rr
        have same : ∀ a, a ≠ q → (upd H4 q (.dK (dropK kvs (Sum.inl n)))) a = H4 a := fun a ha => upd_ne ha
        refine ⟨x, us, d, kF F4, hd1, rfl, SqL.of ((same x xq).trans hx), fun y hy => ?_, fun ys p2 hs hpm hl2 hfree => ?_⟩
        · obtain ⟨t2, e, ht, hm2⟩ := hk2 y hy
          have h5 := R4.ex _ _ ht
          have tq : t2 ≠ q := fun z => by rw [z, hp] at h5; cases h5
          exact ⟨t2, e, (same t2 tq).trans h5, hls _ hm2⟩
        · obtain ⟨B', ob', hB'⟩ := own_pop (k := Sum.inl n) S4.ow hp
          have ex5 : Same F4 (upd H4 q (.dK (dropK kvs (Sum.inl n)))) := fun a ob e => by
            have : a ≠ q := fun z => by rw [z, hf] at e; cases e
            rw [upd_ne this]; exact R4.ex _ _ e
          have R5 := R.plc g14 e1 e2 o4 S4 (F2 := F4) (H2 := upd H4 q (.dK (dropK kvs (Sum.inl n)))) ex5 (Same.refl _) (fun _ _ _ _ => rfl) (fun a ha h4 => upd_ne fun z => ha (by rw [z]; exact S4.ow.root_mem)) (fun a h4 => by
            by_cases z : a = q
            · rw [z, upd_same]; simp
            · rw [upd_ne z]; exact h4) ob' fun a ha => .inl (hB' a ha)
          have rr2 : Reps T F4 ys ((ys.map (kF F4)).map tupI) := reps_of_kF fun y hy => by
            obtain ⟨t2, e, ht, _⟩ := hk2 y (hpm.mem_iff.mp hy)
            exact ⟨t2, e, ht⟩
          have g5 : Go F4 (upd H4 q (.dK (dropK kvs (Sum.inl n)))) F4 (upd (upd H4 q (.dK (dropK kvs (Sum.inl n)))) p2 (.lst ys)) := (Go.refl ex5).lay hfree
          have rw5 : RepW T G (upd H4 q (.dK (dropK kvs (Sum.inl n)))) F4 (upd (upd H4 q (.dK (dropK kvs (Sum.inl n)))) p2 (.lst ys)) (.ref p2) (.fr (.fl ((ys.map (kF F4)).map tupI))) :=
            ⟨[p2], .fl upd_same (ex5.free hfree) rr2, fun a ha => by rw [List.mem_singleton.mp ha]; exact hfree⟩
          exact k _ _ (hz (ys.map (kF F4)) (by rw [← ek]; exact hpm.map _) (List.pairwise_map.mpr hs)) (.ref p2) F4 _ g14.f (R5.go g5) (R5.freshW rw5) (R5.apartW g5 rw5)
    · rw [hval] at hu
      have hg2 : getK (kvs.map fun p => [p.1]) ms [Sum.inl n] = none := (getK_none hlen).mpr ((getK_none (by simp)).mp hu)
      rw [hg2] at hz
      obtain ⟨A4, oA, _⟩ := r4
      obtain ⟨x, us, rfl, rfl, hx, hfx, rr⟩ := own_fl oA
      cases rr
      refine ⟨x, [], 1, kF F4, Nat.le_refl _, rfl, SqL.of hx, fun y hy => (nomatch hy), fun ys p2 hs hpm hl2 hfree => ?_⟩
      have : ys = [] := hpm.eq_nil
      subst this
      have g5 : Go F4 H4 F4 (upd H4 p2 (.lst [])) := (Go.refl R4.ex).lay hfree
      have rw5 : RepW T G H4 F4 (upd H4 p2 (.lst [])) (.ref p2) (.fr (.fl [])) := ⟨[p2], .fl upd_same (R4.ex.free hfree) .nil, fun a ha => by rw [List.mem_singleton.mp ha]; exact hfree⟩
      exact k _ _ hz (.ref p2) F4 _ g14.f (R4.go g5) (R4.freshW rw5) (R4.apartW g5 rw5)
  · obtain ⟨q, ob, vs0, rfl, rfl, hq, _, hd0, _⟩ := own_fd S.ow
    refine ⟨q, rfl, isD_of hd0 hq, G, F1, δ, _, R.go g, hw, fun w hz v2 F2 H2 g2 r2 => ?_⟩
    clear hw
    obtain ⟨n, hcl, hz⟩ := hz
    obtain ⟨F3, g3, r3⟩ := clW_rep g2 r2 hcl
    obtain rfl := rep_int r3
    have g13 : Go F H F3 H2 := g.trans g3
    have R3 := R.go g13
    refine ⟨G, F3, δ, fun w => w = .fr (.fl []), R3, ⟨by decide, rfl⟩, fun w hw3 v3 F4 H4 g4 r4 => ?_⟩
    subst hw3
    have g14 : Go F H F4 H4 := g13.trans g4
    have R4 := R.go g14
    obtain ⟨nd, kvs, rfl, ek, _⟩ := hd0
    have : kvs = [] := by
      cases kvs with
      | nil => rfl
      | cons a l => cases ek
    subst this
    refine ⟨[], Sum.inl n, g4.h _ _ (g3.h _ _ hq), rfl, fun u' hu => (nomatch hu), fun hu => ?_⟩
    obtain ⟨A4, oA, _⟩ := r4
    obtain ⟨x, us, rfl, rfl, hx, hfx, rr⟩ := own_fl oA
    cases rr
    refine ⟨x, [], 1, kF F4, Nat.le_refl _, rfl, SqL.of hx, fun y hy => (nomatch hy), fun ys p2 hs hpm hl2 hfree => ?_⟩
    have : ys = [] := hpm.eq_nil
    subst this
    have g5 : Go F4 H4 F4 (upd H4 p2 (.lst [])) := (Go.refl R4.ex).lay hfree
    have rw5 : RepW T G H4 F4 (upd H4 p2 (.lst [])) (.ref p2) (.fr (.fl [])) := ⟨[p2], .fl upd_same (R4.ex.free hfree) .nil, fun a ha => by rw [List.mem_singleton.mp ha]; exact hfree⟩
    exact k _ _ hz (.ref p2) F4 _ g14.f (R4.go g5) (R4.freshW rw5) (R4.apartW g5 rw5)
  · exact hw.elim
end
end Vl
namespace Vl
open PySem PySem.Spec PyProof.Rows L2
/-- a loop over a new list that an expression with an effect hands on -/
def aForX (a : AX) (g : AG) (body : AS) : AS := fun E δ => a δ fun w δ' => ∃ ds, w = .fr (.fl ds) ∧ Loop g body E δ' ds
section
variable {T : Tb} {X : Cx} {tg it : Expr} {body : List Stmt} {ax : AX} {ag : AG} {s : AS} {ks : List Nat} {pos : Pos}
theorem s_forX (hp : PassesOwn (model X.prog X.w) X.A X.env X.xe) (hc : X.calm = true) (hTK : T.K = X.K) (he : PE X it (rdX T ax)) (hg : PG X tg (rdG T ks ag)) (hb : PSs X body (rdS T s))
    (hs : ∀ x, foldedSetIterable it X.env x = pure x := by intro _; rfl) : PS X (.For tg it body [] pos) (rdS T (aForX ax ag s)) := (ps_for hp hc (pi_list he) hg hb hs).mono fun D σ H h => by
  obtain ⟨G, F, δ, E, R, h, k⟩ := h
  refine ⟨G, F, δ, _, R, h, fun w δ1 hw v F0 H1 sF R0 r ap => ?_⟩
  obtain ⟨ds, rfl, hw⟩ := hw
  obtain ⟨A, o, hA⟩ := r
  obtain ⟨R1, s1, rp⟩ := R0.frzW o hA ap
  obtain ⟨a, vs, rfl, ha, rr⟩ := rep_lst rp
  refine ⟨a, rfl, ⟨vs, SqL.of (R1.ex _ _ ha)⟩, ?_⟩
  have WW : IsWalk T G (ext F0 A H1) (Itl T.K a) ds := walk_fl rr fun F' H' σ' δ' s R' => SqL.of (R'.ex _ _ (s _ _ ha))
  rw [hTK] at WW
  obtain ⟨I, h0, hs, he⟩ := hw
  obtain ⟨Gd, Y, w, stb, yy⟩ := WW
  have sF1 : Same F (ext F0 A H1) := sF.trans s1
  refine for_it w (fun i σ' H' => ∃ F' δ', Same (ext F0 A H1) F' ∧ RepS T G F' H' σ' δ' ∧ I i δ') ⟨_, δ1, Same.refl _, R1, h0⟩ (fun i σ' H' _ ⟨F', δ', s, R', _⟩ => stb F' H' σ' δ' s R') ?_ ?_
  · rintro i x σ' H' H2 hi ⟨F', δ', sm, R', hI⟩ hy
    obtain ⟨rfl, d, hd, rd⟩ := yy i H' x H2 hi (stb F' H' σ' δ' sm R') hy
    refine ⟨G, F', δ', _, d, R', rd F' sm R'.ex, hs i d δ' hd hI, fun δ2 q σ2 _ R2 => ?_⟩
    refine ⟨G, F', δ2, _, R2, q, ?_⟩
    exact ⟨fun δ3 q3 F3 H3 σ3 s3 R3 => ⟨F3, δ3, sm.trans s3, R3, q3⟩, fun w δ3 q3 v F3 H3 σ3 s3 => k.rt w δ3 q3 v F3 H3 σ3 (sF1.trans (sm.trans s3)),
      fun δ3 q3 F3 H3 σ3 s3 => k.nx δ3 q3 F3 H3 σ3 (sF1.trans (sm.trans s3)), fun δ3 q3 F3 H3 σ3 s3 R3 => ⟨F3, δ3, sm.trans s3, R3, q3⟩⟩
  · rintro σ' H' ⟨F', δ', sm, R', hI⟩
    exact k.nx _ (he δ' hI) F' H' σ' (sF1.trans sm) R'
end
/-! ### defs with a keyword -/
def aCallK (c : Ct) (n m : Nat) (es ks : AA) : AE := fun δ Q => es δ fun ws => ks δ fun zs => (ws.length = n ∧ zs.length = m) ∧ c (ws ++ zs) Q
/-- the last parameter is not given: None -/
def aCallD (c : Ct) (es : AA) : AE := fun δ Q => es δ fun ws => c (ws ++ [.cl .non]) Q
section
variable {T : Tb} {X : Cx} {k n : Nat} {f : Addr} {fd : FuncData} {ps ks : List Str} {x : Str} {p pos : Pos} {e : Expr} {es : List Expr} {kws : List Keyword} {c : Ct} {xs zs : AA} {g : List Value → List Value → List Value}
theorem e_callK (Fn : FnOk X.prog X.w X.K X.mg X.base CX0 k f fd ps (spC T c)) (hr : Room k X.A) (hg : Gl X x) (hm : X.mg x = some (.ref f)) (hk : PySem.W.keepIn X.K (.ref f) = true) (hb : KBn X.K fd ps n ks g (fun vs zs => vs ++ zs))
    (ha : PA X (e :: es) (rdA T xs)) (hkw : PK X kws (rdA T zs)) (hall : (backToKw pos (keywordEach kws X.env)).all (·.1.isSome) = true := by rfl) (hks : (backToKw pos (keywordEach kws X.env)).filterMap (·.1) = ks := by rfl)
    (hdb : (x == ("__debug__" : Str)) = false := by decide) (he : starEach (e :: es) X.env = (false, eval e X.env) :: starEach es X.env := by rfl)
    (hpl : ((backTo pos (starEach (e :: es) X.env)).any (·.1) || (backToKw pos (keywordEach kws X.env)).any (·.1.isNone)) = false := by rfl) :
    PE X (.Call (.Name x p) (e :: es) kws pos) (rdE T (aCallK c n ks.length xs zs)) :=
  (pe_callN (E := E0) Fn hr hg hm hk hb pass0 ha hkw hall hks hdb he hpl).mono fun σ H Q h => by
    obtain ⟨G, F, δ, P, R, h, kk⟩ := h
    refine ⟨G, F, δ, _, R, h, fun ws hw us F1 H1 g1 r => ⟨G, F1, δ, _, R.go g1, hw, fun zs hz vs F2 H2 g2 r2 => ?_⟩⟩
    obtain ⟨⟨l1, l2⟩, hz⟩ := hz
    refine ⟨r.length.trans l1, r2.length.trans l2, G, F2, ws ++ zs, P, (g1.trans g2).ex, (r.go g2).append r2, hz, fun w hP v F3 H3 g3 r3 => kk w hP v F3 H3 ((g1.trans g2).trans g3) ((RepR.toW r3).back (g1.trans g2).h)⟩
theorem e_callD (Fn : FnOk X.prog X.w X.K X.mg X.base CX0 k f fd ps (spC T c)) (hr : Room k X.A) (hg : Gl X x) (hm : X.mg x = some (.ref f)) (hk : PySem.W.keepIn X.K (.ref f) = true) (hb : ∃ ds, Vals [V.non] ds ∧ Binds X.K fd ps ds)
    (ha : PA X (e :: es) (rdA T xs)) (hdb : (x == ("__debug__" : Str)) = false := by decide) (he : starEach (e :: es) X.env = (false, eval e X.env) :: starEach es X.env := by rfl) (hpl : (backTo pos (starEach es X.env)).any (·.1) = false := by rfl) :
    PE X (.Call (.Name x p) (e :: es) [] pos) (rdE T (aCallD c xs)) := by
  obtain ⟨ds, hd, hb⟩ := hb
  exact (pe_call Fn hr hg hm hk hb hd (E := E0) pass0 ha hdb he hpl).mono fun σ H Q h => by
    obtain ⟨G, F, δ, P, R, h, k⟩ := h
    refine ⟨G, F, δ, _, R, h, fun ws hw vs F1 H1 g r => ?_⟩
    exact ⟨G, F1, ws ++ [.cl .non], P, g.ex, r.append (.cons (show RepA T G F1 H1 V.non (.cl .non) from Rep.non) .nil), hw, fun w hP v F2 H2 g2 r2 => k w hP v F2 H2 (g.trans g2) ((RepR.toW r2).back g.h)⟩
end
end Vl
namespace Vl
open PySem PySem.Spec PyProof.Rows L2
/-- a def whose last parameter is keyword-only, None if it lacks -/
theorem bd_mk {K : PySem.W.Frag} {x qual kw : Str} {st : Stmt} {f D : Addr} {ps : List Str} {oc doc pm cd ct : Value} {od an : Option Addr} {sl : Array (Option Value)} (n : Nat)
    (l : K.lookup f = some ⟨oc, od, .func (PySem.W.fnOf x qual (defArgs st) (defBody st) (defScope st) .none (.ref D) doc pm an cd ct), sl⟩) (c : PySem.W.codeIn K cd qual = true) (k : PySem.W.keepIn K (.ref f) = true)
    (w : PySem.W.nsIn K D kw = some (some .none)) (hn : n + 1 = ps.length)
    (h : ∀ (D : Addr) (doc pm : Value) (an : Option Addr) (cdv ct : Value) (us ks : List Value), us.length = n → ks.length = 1 →
      KwChain D ([kw].zip ks) (bindArgs (PySem.W.fnOf x qual (defArgs st) (defBody st) (defScope st) .none (.ref D) doc pm an cdv ct) ⟨us, []⟩) (ps.zip (us ++ ks))) :
    ∃ ds, Vals [V.non] ds ∧ Binds K (PySem.W.fnOf x qual (defArgs st) (defBody st) (defScope st) .none (.ref D) doc pm an cd ct) ps ds :=
  FunD.binds0 (kws := [(kw, V.non)]) ⟨⟨oc, od, .none, .ref D, doc, pm, an, cd, ct, sl, rfl, l, c, .inl ⟨rfl, rfl⟩, .inr ⟨D, rfl, fun q hq => by
    rw [List.mem_singleton.mp hq]; exact ⟨_, w, rfl⟩⟩⟩, k⟩ n (by intro z; cases z) hn h
end Vl
namespace Vl
open PySem PySem.Spec PyProof.Rows L2
/-- {} whose values will be own objects -/
def aDNewM (t : Bool) : AE := fun _ Q => Q (.fr (.td t [] []))
section
variable {T : Tb} {X : Cx} {pos : Pos}
theorem e_dnewKM : PE X (.Dict [] [] pos) (rdE T (aDNewM false)) := pe_dnewK.mono fun σ H Q h => by
  obtain ⟨G, F, δ, P, R, h, k⟩ := h
  intro p hp
  exact k _ h _ F _ ((Go.refl R.ex).lay hp) ⟨[p], .td upd_same (R.ex.free hp) ⟨List.nodup_nil, [], rfl, rfl, rfl⟩ (fun q => nomatch q) .nil, fun a q => by rw [List.mem_singleton.mp q]; exact hp⟩
theorem e_dnewTM : PE X (.Dict [] [] pos) (rdE T (aDNewM true)) := pe_dnewT.mono fun σ H Q h => by
  obtain ⟨G, F, δ, P, R, h, k⟩ := h
  intro p hp
  exact k _ h _ F _ ((Go.refl R.ex).lay hp) ⟨[p], .td upd_same (R.ex.free hp) ⟨List.nodup_nil, [], rfl, rfl, rfl⟩ (fun q => nomatch q) .nil, fun a q => by rw [List.mem_singleton.mp q]; exact hp⟩
end
/-! ### dicts as lists of pairs -/
section
variable {κ α β : Type} [DecidableEq κ]
def look : List (κ × α) → κ → Option α
  | [], _ => none
  | (a, x) :: l, k => if a = k then some x else look l k
def putA : List (κ × α) → κ → α → List (κ × α)
  | [], k, v => [(k, v)]
  | (a, x) :: l, k, v => if a = k then (a, v) :: l else (a, x) :: putA l k v
def delA (l : List (κ × α)) (k : κ) : List (κ × α) := l.filter fun p => decide (p.1 ≠ k)
theorem look_put (l : List (κ × α)) (k j : κ) (v : α) : look (putA l k v) j = if j = k then some v else look l j := by
  induction l with
  | nil =>
    show (if k = j then some v else none) = if j = k then some v else none
    by_cases e : k = j
    · rw [if_pos e, if_pos e.symm]
    · rw [if_neg e, if_neg (Ne.symm e)]
  | cons a l ih =>
    obtain ⟨a, x⟩ := a
    unfold putA
    by_cases e : a = k
    · rw [if_pos e]
      show (if a = j then some v else look l j) = _
      by_cases q : j = k
      · rw [if_pos q, if_pos (e.trans q.symm)]
      · rw [if_neg q, if_neg (fun z => q (z.symm.trans e))]
        show _ = if a = j then some x else look l j
        rw [if_neg (fun z => q (z.symm.trans e))]
    · rw [if_neg e]
      show (if a = j then some x else look (putA l k v) j) = if j = k then some v else if a = j then some x else look l j
      by_cases q : a = j
      · rw [if_pos q, if_pos q, if_neg (fun z => e (q.trans z))]
      · rw [if_neg q, if_neg q, ih]
theorem look_del (l : List (κ × α)) (k j : κ) : look (delA l k) j = if j = k then none else look l j := by
  induction l with
  | nil => unfold delA look; simp
  | cons a l ih =>
    obtain ⟨a, x⟩ := a
    unfold delA at ih ⊢
    rw [List.filter_cons]
    by_cases e : a = k
    · rw [if_neg (by simp [e]), ih]
      show _ = if j = k then none else if a = j then some x else look l j
      by_cases q : j = k
      · rw [if_pos q, if_pos q]
      · rw [if_neg q, if_neg q, if_neg (fun z => q (z.symm.trans e))]
    · rw [if_pos (by simp [e])]
      show (if a = j then some x else look _ j) = if j = k then none else if a = j then some x else look l j
      by_cases q : a = j
      · rw [if_pos q, if_pos q, if_neg (fun z => e (q.trans z))]
      · rw [if_neg q, if_neg q, ih]
theorem look_mem {l : List (κ × α)} {k : κ} {v : α} (h : look l k = some v) : (k, v) ∈ l := by
  induction l with
  | nil => cases h
  | cons a l ih =>
    obtain ⟨a, x⟩ := a
    have h : (if a = k then some x else look l k) = some v := h
    by_cases e : a = k
    · rw [if_pos e] at h; cases h; rw [e]; exact List.mem_cons_self
    · rw [if_neg e] at h; exact List.mem_cons_of_mem _ (ih h)
theorem putA_len (l : List (κ × α)) (k : κ) (v : α) : (putA l k v).length ≤ l.length + 1 := by
  induction l with
  | nil => exact Nat.le_refl _
  | cons a l ih =>
    obtain ⟨a, x⟩ := a
    unfold putA
    split
    · exact Nat.le_succ _
    · rw [List.length_cons, List.length_cons]; omega
theorem putA_there (l : List (κ × α)) (k : κ) (v : α) (h : look l k ≠ none) : (putA l k v).length = l.length := by
  induction l with
  | nil => exact absurd rfl h
  | cons a l ih =>
    obtain ⟨a, x⟩ := a
    unfold putA
    by_cases e : a = k
    · rw [if_pos e]; rfl
    · rw [if_neg e, List.length_cons, List.length_cons, ih (by
        have h : ¬ (if a = k then some x else look l k) = none := h
        rw [if_neg e] at h; exact h)]
theorem putA_putA (l : List (κ × α)) (k : κ) (v w : α) : putA (putA l k v) k w = putA l k w := by
  induction l with
  | nil => show (if k = k then [(k, w)] else _) = _; rw [if_pos rfl]; rfl
  | cons a l ih =>
    obtain ⟨a, x⟩ := a
    by_cases e : a = k
    · have e1 : putA ((a, x) :: l) k v = (a, v) :: l := if_pos e
      have e2 : putA ((a, x) :: l) k w = (a, w) :: l := if_pos e
      rw [e1, e2]; exact if_pos e
    · have e1 : putA ((a, x) :: l) k v = (a, x) :: putA l k v := if_neg e
      have e2 : putA ((a, x) :: l) k w = (a, x) :: putA l k w := if_neg e
      rw [e1, e2, ← ih]; exact if_neg e
theorem putA_keys (l : List (κ × α)) (k : κ) (v : α) (h : look l k ≠ none) (g : κ → β) : (putA l k v).map (fun p => g p.1) = l.map fun p => g p.1 := by
  induction l with
  | nil => exact absurd rfl h
  | cons a l ih =>
    obtain ⟨a, x⟩ := a
    by_cases e : a = k
    · have e1 : putA ((a, x) :: l) k v = (a, v) :: l := if_pos e
      rw [e1]; rfl
    · have e1 : putA ((a, x) :: l) k v = (a, x) :: putA l k v := if_neg e
      have h : ¬ (if a = k then some x else look l k) = none := h
      rw [if_neg e] at h
      rw [e1, List.map_cons, ih h]; rfl
theorem mem_putA {l : List (κ × α)} {k : κ} {v : α} {p : κ × α} (h : p ∈ putA l k v) : p ∈ l ∨ p = (k, v) := by
  induction l with
  | nil => exact .inr (List.mem_singleton.mp h)
  | cons a l ih =>
    obtain ⟨a, x⟩ := a
    by_cases e : a = k
    · have e1 : putA ((a, x) :: l) k v = (a, v) :: l := if_pos e
      rw [e1] at h
      rcases List.mem_cons.mp h with h | h
      · right; rw [h, e]
      · left; exact List.mem_cons_of_mem _ h
    · have e1 : putA ((a, x) :: l) k v = (a, x) :: putA l k v := if_neg e
      rw [e1] at h
      rcases List.mem_cons.mp h with h | h
      · left; rw [h]; exact List.mem_cons_self
      · rcases ih h with h | h
        · left; exact List.mem_cons_of_mem _ h
        · right; exact h
variable (en : κ → List Key) (he : ∀ a b, en a = en b → a = b) (f : α → β)
include he
theorem getK_look (l : List (κ × α)) (k : κ) : getK (l.map fun p => en p.1) (l.map fun p => f p.2) (en k) = (look l k).map f := by
  induction l with
  | nil => rfl
  | cons a l ih =>
    obtain ⟨a, x⟩ := a
    show (if en a = en k then some (f x) else _) = Option.map f (if a = k then some x else look l k)
    by_cases e : a = k
    · rw [if_pos e, if_pos (by rw [e])]; rfl
    · rw [if_neg e, if_neg fun z => e (he _ _ z)]; exact ih
theorem mem_look (l : List (κ × α)) (k : κ) : en k ∈ l.map (fun p => en p.1) ↔ look l k ≠ none := by
  induction l with
  | nil => simp [look]
  | cons a l ih =>
    obtain ⟨a, x⟩ := a
    show en k ∈ en a :: _ ↔ (if a = k then some x else look l k) ≠ none
    rw [List.mem_cons]
    by_cases e : a = k
    · rw [if_pos e]; exact ⟨fun _ z => (nomatch z), fun _ => .inl (by rw [e])⟩
    · rw [if_neg e, ← ih]
      exact ⟨fun z => z.resolve_left fun q => e (he _ _ q).symm, .inr⟩
theorem putKs_A (l : List (κ × α)) (k : κ) (v : α) : putKs (l.map fun p => en p.1) (en k) = (putA l k v).map fun p => en p.1 := by
  induction l with
  | nil => rfl
  | cons a l ih =>
    obtain ⟨a, x⟩ := a
    unfold putA
    by_cases e : a = k
    · rw [if_pos e]
      unfold putKs
      rw [if_pos (by rw [e]; exact List.mem_cons_self)]; rfl
    · rw [if_neg e, List.map_cons, putKs_cons (fun z => e (he _ _ z)), ih]; rfl
theorem putVs_A (l : List (κ × α)) (k : κ) (v : α) : putVs (l.map fun p => en p.1) (l.map fun p => f p.2) (en k) (f v) = (putA l k v).map fun p => f p.2 := by
  induction l with
  | nil => rfl
  | cons a l ih =>
    obtain ⟨a, x⟩ := a
    unfold putA
    show (if en a = en k then _ else _) = _
    by_cases e : a = k
    · rw [if_pos e, if_pos (by rw [e])]; rfl
    · rw [if_neg e, if_neg fun z => e (he _ _ z), ih]; rfl
theorem delKs_A (l : List (κ × α)) (k : κ) : delKs (l.map fun p => en p.1) (en k) = (delA l k).map fun p => en p.1 := by
  unfold delKs delA
  rw [List.filter_map]
  congr 1
  apply List.filter_congr
  rintro ⟨a, x⟩ _
  show decide (en a ≠ en k) = decide (a ≠ k)
  by_cases e : a = k
  · rw [e]; simp
  · rw [decide_eq_true e, decide_eq_true (show en a ≠ en k from fun z => e (he _ _ z))]
theorem delVs_A (l : List (κ × α)) (k : κ) : delVs (l.map fun p => en p.1) (l.map fun p => f p.2) (en k) = (delA l k).map fun p => f p.2 := by
  induction l with
  | nil => rfl
  | cons a l ih =>
    obtain ⟨a, x⟩ := a
    unfold delA at ih ⊢
    show (if en a = en k then _ else _) = _
    rw [List.filter_cons]
    by_cases e : a = k
    · rw [if_pos (by rw [e]), if_neg (by simp [e]), ← ih]
    · rw [if_neg (fun z => e (he _ _ z)), if_pos (by simp [e]), List.map_cons, ← ih]
end
end Vl
namespace Vl
open PySem PySem.Spec PyProof.Rows L2
theorem fSortT_eq (w : W) (Q : W → Prop) : fSortT [w] Q = ∃ (d : Nat) (ks : List (List Int)), 1 ≤ d ∧ lstC w = some (ks.map tupI) ∧ (∀ k ∈ ks, k.length = d) ∧ ∀ ms : List (List Int), ms.Perm ks → ms.Pairwise (fun a b => HT.lexLt b a = false) → Q (.fr (.fl (ms.map tupI))) := rfl
theorem fSortDT_eq (w : W) (Q : W → Prop) : fSortDT [w] Q = ∃ (n : Nat) (ks : List (List Int)) (us : List W), 1 ≤ n ∧ kidsW w = some (true, ks.map keyIs', us) ∧ (∀ k ∈ ks, k.length = n) ∧ ∀ ms : List (List Int), ms.Perm ks → ms.Pairwise (fun a b => HT.lexLt b a = false) → Q (.fr (.fl (ms.map tupI))) := rfl
theorem fMinD_eq (w : W) (Q : W → Prop) : fMinD [w] Q = ∃ (ns : List Int) (us : List W), kidsW w = some (false, ns.map keyI, us) ∧ 0 < ns.length ∧ ∀ m, m ∈ ns → (∀ y ∈ ns, m ≤ y) → Q (.cl (.int m)) := rfl
theorem fMaxD_eq (w : W) (Q : W → Prop) : fMaxD [w] Q = ∃ (ns : List Int) (us : List W), kidsW w = some (false, ns.map keyI, us) ∧ 0 < ns.length ∧ ∀ m, m ∈ ns → (∀ y ∈ ns, y ≤ m) → Q (.cl (.int m)) := rfl
theorem aForX_eq (a : AX) (g : AG) (body : AS) (E : AEnds) (δ : List AV) : aForX a g body E δ = a δ fun w δ' => ∃ ds, w = .fr (.fl ds) ∧ Loop g body E δ' ds := rfl
end Vl
namespace Vl
open PySem PySem.Spec PyProof.Rows L2
section
variable {T : Tb} {X : Cx} {c : Nat} {g : List D → Prop}
/-- xs == ys where the data are equal -/
def dEqS (g : List D → Prop) (c k : Nat) : W → W → (W → Prop) → Prop := fun x y Q => match itemsC x, itemsC y with
  | some ds, some es => ds = es ∧ (∀ d ∈ ds, lvD g c k d) ∧ Q (.cl (.bl true))
  | _, _ => False
theorem b_eqS {k : Nat} : Bin2 T (rEqG (DList (DLev T g c k))) (dEqS g c k) := by
  intro G F H F' H' x y u w P Q go rx ry h kk
  unfold dEqS at h
  split at h
  · rename_i ds es h1 h2
    obtain ⟨rfl, hl, q⟩ := h
    obtain ⟨a, vs, rfl, ha, ra⟩ := rx.items go.ex h1
    obtain ⟨b, ws, rfl, hb, rb⟩ := ry.items go.ex h2
    have prs : ∀ {vs ws : List V} {ds : List D}, (∀ d ∈ ds, lvD g c k d) → Reps T F' vs ds → Reps T F' ws ds → Prs (DLev T g c k) vs ws H' := by
      intro vs ws ds
      induction ds generalizing vs ws with
      | nil => intro _ r1 r2; cases r1; cases r2; exact Prs.nil
      | cons d ds ih =>
        intro hd r1 r2
        cases r1 with
        | cons p1 t1 =>
          cases r2 with
          | cons p2 t2 => exact Prs.cons (lev_of go.ex (hd d List.mem_cons_self) p1 p2) (ih (fun d q => hd d (List.mem_cons_of_mem _ q)) t1 t2)
    refine ⟨⟨a, b, vs, ws, rfl, rfl, ha, hb, prs hl ra rb⟩, fun H2 e => kk _ q _ F' H2 (go.trans ⟨e, Same.refl _, fun a o z => e _ _ (go.ex _ _ z), fun _ _ _ => rfl⟩) (.bl true)⟩
  · exact h.elim
theorem op_eqS (hTK : T.K = X.K) {ct : Ct} {f : Addr} {fd : FuncData} {ps : List Str} {n k m : Nat} (Fn : FnOk X.prog X.w X.K X.mg X.base CX0 n f fd ps (spC T ct)) (hct : ∀ ds Q, g ds → Q (.cl (.bl true)) → ct [.cl (.ins c ds), .cl (.ins c ds)] Q)
    (hm : Meth X.K (T.cl c) "__eq__" f) (hb : Binds X.K fd ps []) (hr : Room m X.A) (hmn : n + k + 1 ≤ m) : OpR X (compareOp .Eq) (rEqG (DList (DLev T g c k))) :=
  op_eqG (rcG_list (mon_lev k) (eqG_lev hTK (eqG_of Fn hct hm hb) k)) (hr.mono hmn)
end
/-! ### methods without arguments -/
section
variable {T : Tb} {X : Cx} {c k n : Nat} {fa : Addr} {fd : FuncData} {ps : List Str} {ct : Ct} {x : AE} {m : Str} {pos apos : Pos}
theorem e_meth0 {pl : Sem Bool} (hC : Cls X.K (T.cl c)) (hm : Meth X.K (T.cl c) m fa) (Fn : FnOk X.prog X.w X.K X.mg X.base CX0 k fa fd ps (spC T ct)) (hr : Room k X.A) (hb : Binds X.K fd ps []) (hno : m ∉ T.fs c) {o : Expr} (ho : PE X o (rdE T x))
    (ht : eval (.Call (.Attribute o m apos) [] [] pos) X.env = (do
      let ov ← eval o X.env
      standAt apos.atName
      let (f, first) ← holding [ov] (getMethod ov m pl)
      callWith pos f first (backTo pos (starEach [] X.env)) (backToKw pos (keywordEach [] X.env))) := by rfl) :
    PE X (.Call (.Attribute o m apos) [] [] pos) (rdE T (aMeth c ct x aNil)) :=
  (pe_meth0 (E := E0) ho hC hm Fn hr hb .nil pass0 ht).mono fun σ H Q h => by
    obtain ⟨G, F, δ, P, R, h, kk⟩ := h
    refine ⟨G, F, δ, _, R, h, fun w hw v F1 H1 g r => ?_⟩
    have fin : ∀ {w0 : W} {a dx : Addr} {vs : List V} {c' : Nat}, v = .ref a → c' = c → H1 a = some (.ins (T.cl c') dx ((T.fs c').zip vs)) → RepA T G F1 H1 (.ref a) w0 → ct [w0] P → tMeth (T.cl c) m (spC T ct) [] E0 (fun σ H Q => Q v H1) tNil σ H1 Q := by
      rintro w0 a dx vs c' rfl rfl ha ra hw
      refine ⟨a, dx, _, rfl, ha, lookup_zip_none hno, ?_⟩
      show spC T ct (.ref a :: ([] ++ [])) H1 Q E0
      exact ⟨G, F1, [w0], P, g.ex, .cons ra .nil, hw, fun w hP v F3 H3 g3 r3 => kk w hP v F3 H3 (g.trans g3) ((RepR.toW r3).back g.h)⟩
    split at hw
    · rename_i c' ds
      obtain ⟨e1, hw⟩ := hw
      obtain ⟨a, dx, vs, rfl, ha, hl, rr⟩ := rep_ins r
      exact fin (w0 := .cl (.ins c' ds)) rfl e1 (g.ex _ _ ha) r hw
    · rename_i c' ms
      obtain ⟨e1, hw⟩ := hw
      obtain ⟨A, o, hA⟩ := r
      obtain ⟨a, dx, vs, B, rfl, rfl, ha, _⟩ := own_ti o
      exact fin (w0 := .bw (.ti c' ms)) rfl e1 ha ⟨_, o, hA⟩ hw
    · rename_i c' ms
      obtain ⟨e1, hw⟩ := hw
      obtain ⟨A, o⟩ := r
      obtain ⟨a, dx, vs, B, rfl, rfl, ha, _⟩ := own_ti o
      exact fin (w0 := .ow (.ti c' ms)) rfl e1 ha ⟨_, o⟩ hw
    · exact hw.elim
end
/-! ### a part of a tuple -/
def aSlT (e : AE) (lo hi : AO) : AE := fun δ Q => e δ fun w => lo δ fun l => hi δ fun h => match w with
  | .cl (.tup ds) => Q (.cl (.tup (cutD ds l h)))
  | _ => False
section
variable {T : Tb} {X : Cx} {e : Expr} {x : AE} {pos p2 : Pos}
theorem e_slT {lo hi : Option Expr} {l h : AO} (he : PE X e (rdE T x)) (hl : PO X lo (rdO T l)) (hh : PO X hi (rdO T h)) : PE X (.Subscript e (.Slice lo hi none p2) pos) (rdE T (aSlT x l h)) := (pe_slice sl_tupA he hl hh).mono fun σ H Q h => by
  obtain ⟨G, F, δ, P, R, h, k⟩ := h
  refine ⟨G, F, δ, _, R, h, fun w hw v F1 H1 g r => ?_⟩
  refine ⟨G, F1, δ, _, R.go g, hw, fun lo hlo F2 H2 g2 => ?_⟩
  refine ⟨G, F2, δ, _, (R.go g).go g2, hlo, fun hi hhi F3 H3 g3 => ?_⟩
  split at hhi
  · rename_i ds
    have g13 := g2.trans g3
    obtain ⟨p, vs, rfl, hp, rr⟩ := rep_tup (Rep.mono g13.f r)
    refine ⟨p, vs, rfl, SqT.of (g13.ex _ _ hp), fun hw => k _ hhi _ F3 H3 (g.trans g13) ?_, fun hw q hq => new_tup (ds := cutD ds lo hi) (g.trans g13) ?_ hhi k hq⟩
    · have e : cutD ds lo hi = ds := by
        rw [rr.length] at hw
        unfold cutD
        rw [hw.1, hw.2, List.drop_zero, Nat.sub_zero, List.take_length]
      rw [e]
      exact .tup hp rr
    · unfold cutV cutD
      rw [rr.length]
      exact (rr.drop _).take _
  · exact hhi.elim
end
/-! ### what is new becomes clean -/
def aClE (e : AE) : AE := fun δ Q => e δ fun w => Q (argW w)
theorem e_cl {T : Tb} {X : Cx} {e : Expr} {x : AE} (h : PE X e (rdE T x)) : PE X e (rdE T (aClE x)) := h.mono fun σ H Q h => by
  obtain ⟨G, F, δ, P, R, h, k⟩ := h
  refine ⟨G, F, δ, _, R, h, fun w hw v F1 H1 g r => ?_⟩
  obtain ⟨F2, g2, _, _, r2, _⟩ := RepW.arg g r
  exact k _ hw v F2 H1 g2 r2
end Vl
namespace Vl
open PySem PySem.Spec PyProof.Rows L2 RZ
/-! ### len(set(xs)), xs a list of ints -/
def uniqN (ns : List Int) : Nat := (PyProof.Rows.firstMet (fun i => ns.getD i 0) ns.length).length
def tLenSetG (K : PySem.W.Frag) (ta : TE) : TE := fun σ H Q => ta σ H fun x H1 => ∃ (l : Addr) (ns : List Int), x = .ref l ∧ SqL K H1 l (ns.map V.int) ∧ ns.length ≤ 4000 ∧ Q (.int (uniqN ns : Nat)) H1
theorem uniq_le (f : Nat → Int) : ∀ i, (PyProof.Rows.firstMet f i).length ≤ i
  | 0 => Nat.le_refl _
  | i + 1 => by
    have ih := uniq_le f i
    rw [PyProof.Rows.firstMet_succ]
    unfold step_dedup
    split
    · omega
    · rw [List.length_append, List.length_singleton]; omega
theorem pe_lenSetG {X : Cx} {a : Expr} {ta : TE} {p p2 q pos : Pos} (hg : Gl X "len") (hm : X.mg "len" = none) (hg2 : Gl X "set") (hm2 : X.mg "set" = none) (ha : PE X a ta) (hc : X.calm = true := by rfl)
    (na : starEach [a] X.env = (false, eval a X.env) :: starEach [] X.env := by rfl) : PE X (.Call (.Name "len" p) [.Call (.Name "set" p2) [a] [] q] [] pos) (tLenSetG X.K ta) := by
  refine ⟨fun pins s σ H Q I h => ?_⟩
  refine Call_ (ld_blt I hg hm boot_len ?_)
  refine PyProof.Rows.callWith_builtin1 (PyProof.Rows.args_cons ?_ rfl) rfl rfl
  refine Call_ (ld_blt I hg2 hm2 boot_set ?_)
  refine PyProof.Rows.callWith_type1 (PyProof.Rows.args_cons (thn (ha.run pins s σ H _ I h) fun v s1 ⟨x, H1, I1, r1, q1⟩ => PyProof.Rows.args_nil ?_) na) na rfl
  obtain ⟨l, ns, rfl, hq, hl, q1⟩ := q1
  cases r1
  obtain ⟨its, r, pl, hz⟩ := I1.list hq
  have hlen : its.toArray.size = ns.length := by rw [List.size_toArray, ← r.length, List.length_map]
  refine call_set_list (I1.ok.hd hc) pl.isList (by simpa using intsAre_vals r) (by rw [hlen]; unfold scanBound; omega) fun h' tk hS hk => ?_
  refine PyProof.Rows.args_nil ?_
  rw [hlen] at hS
  obtain ⟨o, es, ep, t, ho, hex, hd, _, _, _, hf, hn⟩ := hS
  have I2 : Inv X pins σ H1 { s1 with heap := h', toks := tk } := I1.kept fun b o e => hk b o (Heap.lt_size e) e
  have hu := uniq_le (fun i => ns.getD i 0) ns.length
  exact call_len_set ho hex hd hf (by rw [hn] <;> omega) ⟨.int (uniqN ns), H1, I2.tok _, ⟨_, by rw [hn]; rfl⟩, q1⟩
def aLenSet (e : AE) : AE := fun δ Q => e δ fun w => ∃ ns : List Int, itemsC w = some (ns.map .int) ∧ ns.length ≤ 1000 ∧ Q (.cl (.int (uniqN ns : Nat)))
theorem e_lenSet {T : Tb} {X : Cx} {a : Expr} {x : AE} {p p2 q pos : Pos} (hTK : T.K = X.K) (hg : Gl X "len") (hm : X.mg "len" = none) (hg2 : Gl X "set") (hm2 : X.mg "set" = none) (ha : PE X a (rdE T x)) (hc : X.calm = true := by rfl)
    (na : starEach [a] X.env = (false, eval a X.env) :: starEach [] X.env := by rfl) : PE X (.Call (.Name "len" p) [.Call (.Name "set" p2) [a] [] q] [] pos) (rdE T (aLenSet x)) := (pe_lenSetG hg hm hg2 hm2 ha hc na).mono fun σ H Q h => by
  obtain ⟨G, F, δ, P, R, h, k⟩ := h
  refine ⟨G, F, δ, _, R, h, fun w hw v F1 H1 g r => ?_⟩
  obtain ⟨ns, h1, h2, q⟩ := hw
  obtain ⟨l, vs, rfl, hl, rr⟩ := r.items g.ex h1
  have e := reps_ints rr
  subst e
  exact ⟨l, ns, rfl, .inl (.inl hl), by omega, k _ q _ _ _ g (.int _)⟩
theorem mem_first (f : Nat → Int) (x : Int) : ∀ i, x ∈ PyProof.Rows.firstMet f i ↔ ∃ j, j < i ∧ f j = x
  | 0 => ⟨fun z => (nomatch z), fun ⟨j, hj, _⟩ => absurd hj (Nat.not_lt_zero j)⟩
  | i + 1 => by
    have ih := mem_first f x i
    rw [PyProof.Rows.firstMet_succ]
    unfold step_dedup
    split
    · rename_i h
      rw [ih]
      constructor
      · rintro ⟨j, hj, e⟩; exact ⟨j, by omega, e⟩
      · rintro ⟨j, hj, e⟩
        by_cases q : j = i
        · obtain ⟨y, hy, ey⟩ := List.any_eq_true.mp h
          have ey : y = f i := eq_of_beq ey
          rw [← q, e] at ey
          rw [ey] at hy
          exact ih.mp hy
        · exact ⟨j, by omega, e⟩
    · rw [List.mem_append, ih, List.mem_singleton]
      constructor
      · rintro (⟨j, hj, e⟩ | e)
        · exact ⟨j, by omega, e⟩
        · exact ⟨i, by omega, e.symm⟩
      · rintro ⟨j, hj, e⟩
        by_cases q : j = i
        · exact .inr (by rw [← e, q])
        · exact .inl ⟨j, by omega, e⟩
theorem uniq_iff_f (f : Nat → Int) : ∀ i, (PyProof.Rows.firstMet f i).length = i ↔ ∀ a b, a < b → b < i → f a ≠ f b
  | 0 => ⟨fun _ a b _ h => absurd h (Nat.not_lt_zero b), fun _ => rfl⟩
  | i + 1 => by
    have ih := uniq_iff_f f i
    have hm := mem_first f (f i) i
    have hu := uniq_le f i
    rw [PyProof.Rows.firstMet_succ]
    unfold step_dedup
    split
    · rename_i h
      obtain ⟨y, hy, ey⟩ := List.any_eq_true.mp h
      have ey : y = f i := eq_of_beq ey
      rw [ey] at hy
      obtain ⟨j, hj, e⟩ := hm.mp hy
      exact ⟨fun z => by omega, fun z => absurd e (z j i hj (by omega))⟩
    · rename_i h
      rw [List.length_append, List.length_singleton]
      constructor
      · intro z a b hab hb
        by_cases q : b = i
        · intro e
          apply h
          rw [q] at e hab
          exact List.any_eq_true.mpr ⟨f i, hm.mpr ⟨a, hab, e⟩, beq_self_eq_true _⟩
        · exact ih.mp (by omega) a b hab (by omega)
      · intro z
        have := ih.mpr fun a b hab hb => z a b hab (by omega)
        omega
theorem uniq_nodup (ns : List Int) : uniqN ns = ns.length ↔ ns.Nodup := by
  unfold uniqN
  rw [uniq_iff_f]
  unfold List.Nodup
  rw [List.pairwise_iff_getElem]
  constructor
  · intro z i j hi hj hij
    have := z i j hij hj
    rw [List.getD_eq_getElem?_getD, List.getD_eq_getElem?_getD, List.getElem?_eq_getElem hi, List.getElem?_eq_getElem hj] at this
    exact this
  · intro z a b hab hb
    have := z a b (by omega) hb hab
    rw [List.getD_eq_getElem?_getD, List.getD_eq_getElem?_getD, List.getElem?_eq_getElem (show a < ns.length by omega), List.getElem?_eq_getElem hb]
    exact this
/-! ### a class that is made, its last parameters not given: ints -/
theorem bd_mkI2 {K : PySem.W.Frag} {x qual kw kw2 : Str} {i j : Int} {u1 u2 : Tok} {st : Stmt} {f D : Addr} {ps : List Str} {oc doc pm cd ct : Value} {od an : Option Addr} {sl : Array (Option Value)} (n : Nat)
    (l : K.lookup f = some ⟨oc, od, .func (PySem.W.fnOf x qual (defArgs st) (defBody st) (defScope st) .none (.ref D) doc pm an cd ct), sl⟩) (c : PySem.W.codeIn K cd qual = true) (k : PySem.W.keepIn K (.ref f) = true)
    (w1 : PySem.W.nsIn K D kw = some (some (.int i u1))) (w2 : PySem.W.nsIn K D kw2 = some (some (.int j u2))) (hn : n + 2 = ps.length)
    (h : ∀ (D : Addr) (doc pm : Value) (an : Option Addr) (cdv ct : Value) (us ks : List Value), us.length = n → ks.length = 2 →
      KwChain D ([kw, kw2].zip ks) (bindArgs (PySem.W.fnOf x qual (defArgs st) (defBody st) (defScope st) .none (.ref D) doc pm an cdv ct) ⟨us, []⟩) (ps.zip (us ++ ks))) :
    ∃ ds, Vals ([i, j].map V.int) ds ∧ Binds K (PySem.W.fnOf x qual (defArgs st) (defBody st) (defScope st) .none (.ref D) doc pm an cd ct) ps ds :=
  FunD.binds0 (kws := [(kw, V.int i), (kw2, V.int j)]) ⟨⟨oc, od, .none, .ref D, doc, pm, an, cd, ct, sl, rfl, l, c, .inl ⟨rfl, rfl⟩, .inr ⟨D, rfl, fun q hq => by
    rcases List.mem_cons.mp hq with rfl | hq
    · exact ⟨_, w1, ⟨_, rfl⟩⟩
    · rw [List.mem_singleton.mp hq]; exact ⟨_, w2, ⟨_, rfl⟩⟩⟩⟩, k⟩ n (by intro z; cases z) hn h
def aMakeD (c : Nat) (ini : Ini) (es : AA) (is : List Int) : AE := fun δ Q => es δ fun ws => ini (ws ++ is.map fun i => .cl (.int i)) fun ds => Q (.cl (.ins c ds))
theorem reps_is {T : Tb} {G : Gx} {F H : Hp} : ∀ is : List Int, RepAs T G F H (is.map V.int) (is.map fun i => W.cl (.int i))
  | [] => .nil
  | i :: is => .cons (show RepA T G F H (V.int i) (.cl (.int i)) from Rep.int i) (reps_is is)
theorem e_makeD {T : Tb} {X : Cx} {c k : Nat} {fa : Addr} {fd : FuncData} {ps : List Str} {ini : Ini} {f : Str} {p pos : Pos} {e : Expr} {es : List Expr} {xs : AA} {is : List Int} (M : Mk X.K (T.cl c) fa) (Fn : FnOk X.prog X.w X.K X.mg X.base CX0 k fa fd ps (spI T c ini)) (hr : Room (k + 1) X.A) (hg : Gl X f) (hm : X.mg f = some (.ref (T.cl c))) (hb : ∃ ds, Vals (is.map V.int) ds ∧ Binds X.K fd ps ds) (ha : PA X (e :: es) (rdA T xs))
    (hdb : (f == ("__debug__" : Str)) = false := by decide) (he : starEach (e :: es) X.env = (false, eval e X.env) :: starEach es X.env := by rfl) (hpl : (backTo pos (starEach es X.env)).any (·.1) = false := by rfl) :
    PE X (.Call (.Name f p) (e :: es) [] pos) (rdE T (aMakeD c ini xs is)) := by
  obtain ⟨ds, hd, hb⟩ := hb
  exact (pe_make (E := E0) M Fn hr hg hm hb hd pass0 ha hdb he hpl).mono fun σ H Q h => by
    obtain ⟨G, F, δ, P, R, h, kk⟩ := h
    refine ⟨G, F, δ, _, R, h, fun ws hw us F1 H1 g r x dx hx hdx ne => ?_⟩
    exact rd_made g (r.append (reps_is is)) hw kk x dx hx hdx ne
end Vl
namespace Vl
open PySem PySem.Spec PyProof.Rows L2
/-- numbers that are drawn: any in their bounds -/
def c__law_draw : Ct := fun ws Q => ∃ c n b : Int, ws = [.cl (.int c), .cl (.int n), .cl (.int b)] ∧ (0 ≤ n ∧ n ≤ 1000) ∧ 0 < b ∧ b < 1073741824 ∧
  ∀ xs : List Int, xs.length = n.toNat → (∀ x ∈ xs, 0 ≤ x ∧ x < b) → Q (.fr (.fl (xs.map .int)))
theorem l__law_draw : ∀ ws P, c__law_draw ws P → ws.length = 3 := by rintro ws P ⟨c, n, b, rfl, _⟩; rfl
def cellN (ns : List Int) (k : Int) : Int := ns.getD k.toNat 0
def c__law_cell : Ct := fun ws Q => ∃ (ns : List Int) (k : Int), ws = [.cl (.scr ns), .cl (.int k)] ∧ 0 ≤ k ∧ Q (.cl (.int (cellN ns k)))
theorem l__law_cell : ∀ ws P, c__law_cell ws P → ws.length = 2 := by rintro ws P ⟨ns, k, rfl, _⟩; rfl
def c__law_is_integer : Ct := fun ws Q => ∃ d, ws = [.cl d] ∧ ((∃ i, d = .int i ∧ Q (.cl (.bl true))) ∨ (d = .non ∧ Q (.cl (.bl false))) ∨ (∃ b, d = .bl b ∧ Q (.cl (.bl false))))
theorem l__law_is_integer : ∀ ws P, c__law_is_integer ws P → ws.length = 1 := by rintro ws P ⟨d, rfl, _⟩; rfl
end Vl
local macro_rules | `(tactic| walk_at "vs") => `(tactic| simp only [Vl.aSeq, Vl.aFor_eq, Vl.aIf, Vl.aB, Vl.aBin, Vl.aUn, Vl.aV, Vl.slotW, Vl.gt_z, Vl.gt_s, Vl.aCB, Vl.aCall, Vl.aCons, Vl.aNil, Vl.argW, Vl.dLt_eq, Vl.dLe_eq, Vl.dGt_eq, Vl.dGe_eq, Vl.dI0, Vl.dI, Vl.dAdd, Vl.dSub_eq, Vl.dMul, Vl.dDiv_eq, Vl.dMod_eq, Vl.dPow_eq, Vl.dShl_eq, Vl.dNeg, Vl.dNot, Vl.dIsN, Vl.dNotN, Vl.dEq, Vl.dNe, Vl.dIn, Vl.dIx, Vl.fLen_lst, Vl.fLen_tup, Vl.fLen_ow, Vl.fLen_bw, Vl.fLen_scr, Vl.fLen_str, Vl.fInt_int, Vl.fInt_bl, Vl.fAbs_int, Vl.fMax_int, Vl.fMin_int, Vl.fGcd_int, Vl.fLcm_int, Vl.fList_lst, Vl.fList_tup, Vl.fList_ow, Vl.fList_bw, Vl.fList_scr, Vl.seqC, Vl.lstC, Vl.itemsC, Vl.clW, Vl.W.toD, Vl.M.toD, Vl.clDs, Option.map_some, Option.map_none,
  Vl.aRet, Vl.aRetV, Vl.aRetN, Vl.aNext, Vl.aBreak, Vl.aCont, Vl.aC, Vl.aSet, Vl.aSetC, Vl.slotA, Vl.aDrop, Vl.aAsgG, Vl.agN, Vl.agT, Vl.agCons, Vl.agNil, Vl.iLst, Vl.iTup, Vl.iR1, Vl.iR2, Vl.aTup, Vl.aLst, Vl.aAnd, Vl.aOr, Vl.aNot, Vl.aAndV, Vl.aOrV, Vl.aIfE, Vl.aSl, Vl.aoS, Vl.aoN, Vl.aChain, Vl.aAugAdd, Vl.aAugSub, Vl.aMut, Vl.aMutS, Vl.mAppend, Vl.mPop, Vl.mPopAt, Vl.mReverse, Vl.tyM, Vl.aFrz, Vl.frz, Vl.aSetIx, Vl.aLc, Vl.wipeA, Vl.aYes,
  List.set_cons_zero, List.set_cons_succ, List.length_map, List.length_cons, List.length_nil, decide_eq_true_eq, Bool.not_true, Bool.not_false, if_true, if_false, Bool.false_eq_true, Vl.okD_int, Vl.okD_bl, Vl.okD_non, Vl.eqD_int, Vl.eqD_bl, Vl.eqD_non, true_and, and_true, Vl.snoc_int, Vl.aIsi, Vl.isi_bl_bool, Vl.isi_bl_int, Vl.isi_int_int, Vl.isi_int_bool, Vl.isi_non_int, Vl.isi_non_bool, Vl.isi_lst_list, Vl.isi_tup_list, Vl.isi_tup_tuple, Vl.isi_non_tuple, Vl.isi_non_list, Vl.isi_str_str, Vl.isi_lst_bool, Vl.isi_str_bool, Vl.isi_tup_bool, Vl.ixD_0, Vl.ixD_1, Vl.ixD_2, Vl.ixD_3, Vl.ixD_4, Vl.ixD_5, Vl.ixD_6, Vl.ixD_7, Vl.ixD_8, Vl.ixD_9, Vl.ixD_10, Vl.ixD_11, Vl.aFld, Vl.aMeth, Vl.aMake, Vl.aMakeK, Vl.mInsert, Vl.aIndex, Vl.fMax1_eq, Vl.fSorted_eq, List.getElem?_cons_zero, List.getElem?_cons_succ, List.cons_append, List.nil_append, Vl.aPar, Vl.aIsO, Vl.dNeS, Vl.aDNew, Vl.dEqO, Vl.aDGet, Vl.aDIx, Vl.dInD, Vl.kidsW, Vl.keyO, Vl.keyF, Vl.keysF, Vl.getK_map, Vl.M.toDs, Vl.refM, Vl.bwM, Vl.owM, Vl.aMakeO, Vl.aSetX, Vl.aSetCX, Vl.aDropX, Vl.aRetX, Vl.aAsgGX, Vl.aIfX, Vl.xP, Vl.tP, Vl.aBX, Vl.aAndX, Vl.aOrX, Vl.aNotX, Vl.aBinX, Vl.aCallL, Vl.aMethL, Vl.alHere, Vl.alCons, Vl.setP, Vl.apV, Vl.apFld, Vl.apIx, Vl.apKey, Vl.aMutP, Vl.aFSet, Vl.aDPutP, Vl.kidW, Vl.putM, Vl.dctM, Vl.aLstO, Vl.aoCons, Vl.aoNil, Vl.aDisp, Vl.dispGo, Vl.iLstG, Vl.xMut, Vl.fLenD, Vl.one, Vl.mRemove, Vl.apW, Vl.allW_nil, Vl.allW_cons, Vl.anHere, Vl.anCons, Vl.aCallN, Vl.aCallF, Vl.clAlls, Vl.clAll, Vl.flatW, Vl.flatD, Vl.flatDs, Bool.and_true, Bool.true_and, Vl.aDNewM, Vl.fSortT_eq, Vl.fSortDT_eq, Vl.fMinD_eq, Vl.fMaxD_eq, Vl.aForX_eq, Vl.aCallK, Vl.aCallD, Vl.xSortPop, Vl.dEqS, Vl.aSlT, Vl.aClE, Vl.aLenSet, Vl.aMakeD])
namespace Vl
open PySem PySem.Spec PyProof.Rows L2
/-- _law_cell: slots 0=_law_script 1=_law_k -/
def a__law_cell : AS :=
  aSeq (aIf (aB (aBin (dLt) (aV 1) (aCB fLen1 (aCons (aV 0) (aNil))))) (aRet (aBin dIx (aV 0) (aV 1))) (aNext)) (aRet (aC (.int 0)))
theorem w__law_cell : ∀ ws P, c__law_cell ws P → a__law_cell { nx := fun _ => P (.cl .non), rt := fun w _ => P w } (startA 2 ws) := by
  rintro ws P ⟨ns, k, rfl, hk, h⟩
  show a__law_cell _ [.im (.scr ns), .im (.int k)]
  unfold a__law_cell
  walk_at "vs"
  split
  · rename_i hl
    have e : ixD (ns.map D.int) k = some (.int (cellN ns k)) := by
      have hk2 : k.toNat < ns.length := by omega
      unfold ixD cellN
      rw [if_pos hk, List.getElem?_map, List.getElem?_eq_getElem hk2, List.getD_eq_getElem?_getD, List.getElem?_eq_getElem hk2]
      rfl
    rw [e]; exact h
  · rename_i hl
    have e : cellN ns k = 0 := by
      unfold cellN
      rw [List.getD_eq_getElem?_getD, List.getElem?_eq_none_iff.mpr (by omega)]
      rfl
    rw [e] at h; exact h
/-- _law_draw: slots 0=_law_cell_here 1=_law_many 2=_law_bound 3=_law_numbers 4=_law_k 5=_law_seed 6=_law_mixed -/
def a__law_draw : AS :=
  aSeq (aSet 3 (aLst (aNil))) (aSeq (aIf (aB (aBin (dGe) (aV 0) (aBin dPow (aC (.int 10)) (aC (.int 18))))) (aSeq (aFor (iR1 (aCons (aV 1) (aNil))) (agN 4) (aSeq (aMut "list" 3 mAppend (aCons (aBin dMod (aCB fInt (aCons (aV 0) (aNil))) (aV 2)) (aNil))) (aSetC 0 (aBin dDiv (aV 0) (aV 2))))) (aRetV 3)) (aNext)) (aSeq (aSetC 5 (aBin dMod (aCB fInt (aCons (aV 0) (aNil))) (aC (.int 2147483647)))) (aSeq (aFor (iR1 (aCons (aV 1) (aNil))) (agN 4) (aSeq (aSetC 5 (aBin dMod (aCB fInt (aCons (aBin dAdd (aBin dAdd (aBin dMul (aV 5) (aC (.int 48271))) (aC (.int 12345))) (aV 4)) (aNil))) (aC (.int 2147483647)))) (aSeq (aSetC 6 (aBin dMod (aCB fInt (aCons (aBin dAdd (aBin dMul (aV 5) (aC (.int 69621))) (aBin dMul (aC (.int 977)) (aV 4))) (aNil))) (aC (.int 2147483629)))) (aMut "list" 3 mAppend (aCons (aBin dMod (aCB fInt (aCons (aBin dDiv (aV 6) (aC (.int 3))) (aNil))) (aV 2)) (aNil)))))) (aRetV 3))))
theorem w__law_draw : ∀ ws P, c__law_draw ws P → a__law_draw { nx := fun _ => P (.cl .non), rt := fun w _ => P w } (startA 7 ws) := by
  rintro ws P ⟨c, n, b, rfl, ⟨hn0, hn⟩, hb, hb2, h⟩
  show a__law_draw _ [.im (.int c), .im (.int n), .im (.int b), .non, .non, .non, .non]
  unfold a__law_draw
  walk_at "vs"
  have key : ∀ (xs : List Int), (∀ x ∈ xs, 0 ≤ x ∧ x < b) → ∀ y : Int, ∀ x ∈ xs ++ [y % b], 0 ≤ x ∧ x < b := by
    intro xs hx y x hm
    rcases List.mem_append.mp hm with q | q
    · exact hx x q
    · rw [List.mem_singleton.mp q]
      exact ⟨Int.emod_nonneg _ (by omega), Int.emod_lt_of_pos _ hb⟩
  refine ⟨by omega, ⟨by omega, by omega, by decide⟩, ?_⟩
  split
  · refine ⟨by omega, for_up (fun i δ => ∃ (c' : Int) (xs : List Int) (a : AV), δ = [.im (.int c'), .im (.int n), .im (.int b), .ow false (.fl (xs.map .int)), a, .non, .non] ∧ xs.length = i ∧ ∀ x ∈ xs, 0 ≤ x ∧ x < b)
      ⟨c, [], _, rfl, rfl, fun x hx => nomatch hx⟩ ?_ ?_⟩
    · rintro i δ hi ⟨c', xs, a, rfl, hl, hx⟩
      walk_at "vs"
      refine ⟨hb, by omega, ⟨hb, hb2⟩, c' / b, xs ++ [c' % b], _, rfl, by simp [hl], key xs hx c'⟩
    · rintro δ ⟨c', xs, a, rfl, hl, hx⟩
      walk_at "vs"
      exact h xs (by omega) hx
  · refine ⟨by omega, by omega, for_up (fun i δ => ∃ (s : Int) (xs : List Int) (a a' : AV), δ = [.im (.int c), .im (.int n), .im (.int b), .ow false (.fl (xs.map .int)), a, .im (.int s), a'] ∧ xs.length = i ∧ ∀ x ∈ xs, 0 ≤ x ∧ x < b)
      ⟨_, [], _, _, rfl, rfl, fun x hx => nomatch hx⟩ ?_ ?_⟩
    · rintro i δ hi ⟨s, xs, a, a', rfl, hl, hx⟩
      walk_at "vs"
      refine ⟨.inr (by decide), by omega, .inr (by decide), .inl (by decide), by omega, by decide, hb, by omega, _, xs ++ [_ % b], _, _, rfl, by simp [hl], key xs hx _⟩
    · rintro δ ⟨s, xs, a, a', rfl, hl, hx⟩
      walk_at "vs"
      exact h xs (by omega) hx
end Vl
local macro_rules | `(tactic| walk_at "vs") => `(tactic| simp only [Vl.aSeq, Vl.aFor_eq, Vl.aIf, Vl.aB, Vl.aBin, Vl.aUn, Vl.aV, Vl.slotW, Vl.gt_z, Vl.gt_s, Vl.aCB, Vl.aCall, Vl.aCons, Vl.aNil, Vl.argW, Vl.dLt_eq, Vl.dLe_eq, Vl.dGt_eq, Vl.dGe_eq, Vl.dI0, Vl.dI, Vl.dAdd, Vl.dSub_eq, Vl.dMul, Vl.dDiv_eq, Vl.dMod_eq, Vl.dPow_eq, Vl.dShl_eq, Vl.dNeg, Vl.dNot, Vl.dIsN, Vl.dNotN, Vl.dEq, Vl.dNe, Vl.dIn, Vl.dIx, Vl.fLen_lst, Vl.fLen_tup, Vl.fLen_ow, Vl.fLen_bw, Vl.fLen_scr, Vl.fLen_str, Vl.fInt_int, Vl.fInt_bl, Vl.fAbs_int, Vl.fMax_int, Vl.fMin_int, Vl.fGcd_int, Vl.fLcm_int, Vl.fList_lst, Vl.fList_tup, Vl.fList_ow, Vl.fList_bw, Vl.fList_scr, Vl.seqC, Vl.lstC, Vl.itemsC, Vl.clW, Vl.W.toD, Vl.M.toD, Vl.clDs, Option.map_some, Option.map_none,
  Vl.aRet, Vl.aRetV, Vl.aRetN, Vl.aNext, Vl.aBreak, Vl.aCont, Vl.aC, Vl.aSet, Vl.aSetC, Vl.slotA, Vl.aDrop, Vl.aAsgG, Vl.agN, Vl.agT, Vl.agCons, Vl.agNil, Vl.iLst, Vl.iTup, Vl.iR1, Vl.iR2, Vl.aTup, Vl.aLst, Vl.aAnd, Vl.aOr, Vl.aNot, Vl.aAndV, Vl.aOrV, Vl.aIfE, Vl.aSl, Vl.aoS, Vl.aoN, Vl.aChain, Vl.aAugAdd, Vl.aAugSub, Vl.aMut, Vl.aMutS, Vl.mAppend, Vl.mPop, Vl.mPopAt, Vl.mReverse, Vl.tyM, Vl.aFrz, Vl.frz, Vl.aSetIx, Vl.aLc, Vl.wipeA, Vl.aYes,
  List.set_cons_zero, List.set_cons_succ, List.length_map, List.length_cons, List.length_nil, decide_eq_true_eq, Bool.not_true, Bool.not_false, if_true, if_false, Bool.false_eq_true, Vl.okD_int, Vl.okD_bl, Vl.okD_non, Vl.eqD_int, Vl.eqD_bl, Vl.eqD_non, true_and, and_true, Vl.snoc_int, Vl.aIsi, Vl.isi_bl_bool, Vl.isi_bl_int, Vl.isi_int_int, Vl.isi_int_bool, Vl.isi_non_int, Vl.isi_non_bool, Vl.isi_lst_list, Vl.isi_tup_list, Vl.isi_tup_tuple, Vl.isi_non_tuple, Vl.isi_non_list, Vl.isi_str_str, Vl.isi_lst_bool, Vl.isi_str_bool, Vl.isi_tup_bool, Vl.ixD_0, Vl.ixD_1, Vl.ixD_2, Vl.ixD_3, Vl.ixD_4, Vl.ixD_5, Vl.ixD_6, Vl.ixD_7, Vl.ixD_8, Vl.ixD_9, Vl.ixD_10, Vl.ixD_11, Vl.aFld, Vl.aMeth, Vl.aMake, Vl.aMakeK, Vl.mInsert, Vl.aIndex, Vl.fMax1_eq, Vl.fSorted_eq, List.getElem?_cons_zero, List.getElem?_cons_succ, List.cons_append, List.nil_append, Vl.aPar, Vl.aIsO, Vl.dNeS, Vl.aDNew, Vl.dEqO, Vl.aDGet, Vl.aDIx, Vl.dInD, Vl.kidsW, Vl.keyO, Vl.keyF, Vl.keysF, Vl.getK_map, Vl.M.toDs, Vl.refM, Vl.bwM, Vl.owM, Vl.aMakeO, Vl.aSetX, Vl.aSetCX, Vl.aDropX, Vl.aRetX, Vl.aAsgGX, Vl.aIfX, Vl.xP, Vl.tP, Vl.aBX, Vl.aAndX, Vl.aOrX, Vl.aNotX, Vl.aBinX, Vl.aCallL, Vl.aMethL, Vl.alHere, Vl.alCons, Vl.setP, Vl.apV, Vl.apFld, Vl.apIx, Vl.apKey, Vl.aMutP, Vl.aFSet, Vl.aDPutP, Vl.kidW, Vl.putM, Vl.dctM, Vl.aLstO, Vl.aoCons, Vl.aoNil, Vl.aDisp, Vl.dispGo, Vl.iLstG, Vl.xMut, Vl.fLenD, Vl.one, Vl.mRemove, Vl.apW, Vl.allW_nil, Vl.allW_cons, Vl.anHere, Vl.anCons, Vl.aCallN, Vl.aCallF, Vl.clAlls, Vl.clAll, Vl.flatW, Vl.flatD, Vl.flatDs, Bool.and_true, Bool.true_and, Vl.aDNewM, Vl.fSortT_eq, Vl.fSortDT_eq, Vl.fMinD_eq, Vl.fMaxD_eq, Vl.aForX_eq, Vl.aCallK, Vl.aCallD, Vl.xSortPop, Vl.dEqS, Vl.aSlT, Vl.aClE, Vl.aLenSet, Vl.aMakeD])
namespace Vl
open PySem PySem.Spec PyProof.Rows L2

/-! ### nets as data -/
def kD (b : Bool) : D := .str (if b then "host" else "switch")
abbrev Ln := Int × Int × Int
def lnD (w : Ln) : D := .tup [.int w.1, .int w.2.1, .int w.2.2]
structure NetV where
  ks : List Bool
  ls : List Ln
  pr : Int
  er : Int
def netD (N : NetV) : D := .ins 0 [.lst (N.ks.map kD), .lst (N.ls.map lnD), .int N.pr, .int N.er]
/-- the first line that joins the two -/
def joinL (a b : Int) : List Ln → Option Int
  | [] => none
  | w :: r => if (w.1 = a ∧ w.2.1 = b) ∨ (w.1 = b ∧ w.2.1 = a) then some w.2.2 else joinL a b r
def joinN (N : NetV) (a b : Int) : Option Int := joinL a b N.ls
def normL (w : Ln) : Int × Int := if w.2.1 < w.1 then (w.1, w.2.1) else (w.2.1, w.1)
def hostN (N : NetV) (a : Int) : Bool := N.ks.getD a.toNat false
def optI : Option Int → D
  | none => .non
  | some i => .int i
structure NetOk (N : NetV) : Prop where
  n3 : 3 ≤ N.ks.length
  n7 : N.ks.length ≤ 7
  l21 : N.ls.length ≤ 21
  ln : ∀ w ∈ N.ls, (0 ≤ w.1 ∧ w.1 < N.ks.length) ∧ (0 ≤ w.2.1 ∧ w.2.1 < N.ks.length) ∧ w.1 ≠ w.2.1 ∧ 0 ≤ w.2.2 ∧ w.2.2 ≤ 4
  nd : (N.ls.map normL).Nodup
  pr0 : 0 ≤ N.pr
  pr2 : N.pr ≤ 2
  er0 : 0 ≤ N.er
  er2 : N.er ≤ 2
  sw : (N.ks.filter (!·)).length ≤ 3
theorem ixD_ints {xs : List Int} {i : Int} (h0 : 0 ≤ i) (h1 : i < xs.length) : ∃ v, ixD (xs.map D.int) i = some (.int v) ∧ v ∈ xs ∧ xs[i.toNat]? = some v := by
  have e : xs[i.toNat]? = some xs[i.toNat] := List.getElem?_eq_getElem (by omega)
  refine ⟨xs[i.toNat], ?_, List.getElem_mem _, e⟩
  unfold ixD
  rw [if_pos h0, List.getElem?_map, e]
  rfl
theorem ixD_map {α : Type} (f : α → D) {xs : List α} {i : Int} {v : α} (h0 : 0 ≤ i) (h1 : xs[i.toNat]? = some v) : ixD (xs.map f) i = some (f v) := by
  unfold ixD
  rw [if_pos h0, List.getElem?_map, h1]
  rfl
theorem ixD_kD {ks : List Bool} {i : Int} (h0 : 0 ≤ i) (h1 : i < ks.length) : ixD (ks.map kD) i = some (kD (ks.getD i.toNat false)) := by
  have h2 : i.toNat < ks.length := by omega
  refine ixD_map kD h0 ?_
  rw [List.getD_eq_getElem?_getD, List.getElem?_eq_getElem h2]
  rfl
theorem eqD_k (b : Bool) (x : Str) : eqD (kD b) (.str x) = decide ((if b then ("host" : Str) else "switch") = x) := eqD_str _ _
theorem eqD_kh (b : Bool) : eqD (kD b) (.str "host") = b := by cases b <;> decide
theorem eqD_ks (b : Bool) : eqD (kD b) (.str "switch") = !b := by cases b <;> decide
theorem eqD_kk (b c : Bool) : eqD (kD b) (kD c) = (b == c) := by cases b <;> cases c <;> decide
theorem okD_k (b : Bool) : okD (kD b) = true := okD_str _ (by cases b <;> decide +kernel)
theorem okD_p2 (a b : Int) : okD (.tup [.int a, .int b]) = true := (show dep 1 (.tup [.int a, .int b]) from dep_tup fun x hx => by
  simp only [List.mem_cons, List.not_mem_nil, or_false] at hx
  rcases hx with rfl | rfl <;> exact dep_int 0 _).1
theorem eqD_p2 (a b c d : Int) : eqD (.tup [.int a, .int b]) (.tup [.int c, .int d]) = decide (a = c ∧ b = d) := by
  have h1 := eqD_int a c
  have h2 := eqD_int b d
  have e : eqD (.tup [.int a, .int b]) (.tup [.int c, .int d]) = (eqD (.int a) (.int c) && (eqD (.int b) (.int d) && true)) := by
    unfold eqD
    simp [pd, pds, PyData.eqv, PyData.eqvAll]
  rw [e, h1, h2, Bool.and_true, Bool.decide_and]
/-- a list that is handed on: clean, borrowed, own -/
def RdL (w : W) (ds : List D) : Prop := w = .cl (.lst ds) ∨ w = .bw (.fl ds) ∨ w = .ow (.fl ds)
def c_Net___init__ : Ini := fun ws P => ∃ (wk wl : W) (kd ld : List D) (p e : Int), ws = [wk, wl, .cl (.int p), .cl (.int e)] ∧ RdL wk kd ∧ RdL wl ld ∧ P [.lst kd, .lst ld, .int p, .int e]
theorem l_Net___init__ : ∀ ws P, c_Net___init__ ws P → ws.length + 1 = 5 := by rintro ws P ⟨wk, wl, kd, ld, p, e, rfl, _⟩; rfl
/-- Net.__init__: slots 0=self 1=kinds 2=lines 3=processing 4=error -/
def a_Net___init__ : AF :=
  aFs (aF 0 (aCB fList (aCons (aV 1) (aNil)))) (aFs (aF 1 (aCB fList (aCons (aV 2) (aNil)))) (aFs (aF 2 (aV 3)) (aF 3 (aV 4))))
theorem w_Net___init__ : ∀ ws P, c_Net___init__ ws P → a_Net___init__ (.non :: ws.map avOf) [] fun ds => ds.length = 4 ∧ P ds := by
  rintro ws P ⟨wk, wl, kd, ld, p, e, rfl, h1, h2, h⟩
  unfold a_Net___init__ aFs aF
  rcases h1 with rfl | rfl | rfl <;> rcases h2 with rfl | rfl | rfl <;>
  · simp only [List.map_cons, List.map_nil, avOf]
    walk_at "vs"
    first | exact ⟨rfl, h⟩ | exact h | exact ⟨rfl, rfl, rfl, rfl, rfl, h⟩
def c__law_joined : Ct := fun ws Q => ∃ (N : NetV) (a b : Int), ws = [.cl (netD N), .cl (.int a), .cl (.int b)] ∧ Q (.cl (optI (joinN N a b)))
theorem l__law_joined : ∀ ws P, c__law_joined ws P → ws.length = 3 := by rintro ws P ⟨N, a, b, rfl, _⟩; rfl
/-- _law_joined: slots 0=_law_net_here 1=_law_a 2=_law_b 3=_law_first 4=_law_second 5=_law_ticks -/
def a__law_joined : AS :=
  aSeq (aFor (iLst (aFld 0 1 (aV 0))) (agT 3 (agCons (agN 3) (agCons (agN 4) (agCons (agN 5) (agNil))))) (aIf (aOr (aAnd (aB (aBin (dEq) (aV 3) (aV 1))) (aB (aBin (dEq) (aV 4) (aV 2)))) (aAnd (aB (aBin (dEq) (aV 3) (aV 2))) (aB (aBin (dEq) (aV 4) (aV 1))))) (aRetV 5) (aNext))) (aRet (aC .non))
theorem w__law_joined : ∀ ws P, c__law_joined ws P → a__law_joined { nx := fun _ => P (.cl .non), rt := fun w _ => P w } (startA 6 ws) := by
  rintro ws P ⟨N, a, b, rfl, h⟩
  show a__law_joined _ [.im (.ins 0 [.lst (N.ks.map kD), .lst (N.ls.map lnD), .int N.pr, .int N.er]), .im (.int a), .im (.int b), .non, .non, .non]
  unfold a__law_joined
  walk_at "vs"
  refine for_map lnD N.ls (fun r δ => (∃ x y z, δ = [.im (.ins 0 [.lst (N.ks.map kD), .lst (N.ls.map lnD), .int N.pr, .int N.er]), .im (.int a), .im (.int b), x, y, z]) ∧ joinN N a b = joinL a b r) ⟨⟨_, _, _, rfl⟩, rfl⟩ ?_ ?_
  · rintro ⟨p, q, t⟩ r δ _ ⟨⟨x, y, z, rfl⟩, hf⟩
    rw [show lnD (p, q, t) = .tup [.int p, .int q, .int t] from rfl]
    have e1 : joinL a b ((p, q, t) :: r) = if (p = a ∧ q = b) ∨ (p = b ∧ q = a) then some t else joinL a b r := rfl
    rw [e1] at hf
    walk_at "vs"
    have yes : ((p = a ∧ q = b) ∨ (p = b ∧ q = a)) → P (.cl (.int t)) := fun z => by
      rw [if_pos z] at hf
      rw [hf] at h
      exact h
    have nx : ¬((p = a ∧ q = b) ∨ (p = b ∧ q = a)) → joinN N a b = joinL a b r := fun z => by
      rw [if_neg z] at hf
      exact hf
    repeat' split
    all_goals first
      | exact yes (.inl ⟨by assumption, by assumption⟩)
      | exact yes (.inr ⟨by assumption, by assumption⟩)
      | exact ⟨⟨_, _, _, rfl⟩, nx (fun z => by rcases z with ⟨z1, z2⟩ | ⟨z1, z2⟩ <;> contradiction)⟩
  · rintro δ ⟨⟨x, y, z, rfl⟩, hf⟩
    walk_at "vs"
    rw [hf] at h
    exact h
def tri : Nat → Nat
  | 0 => 0
  | n + 1 => tri n + n
theorem tri_le {n : Nat} (h : n ≤ 7) : tri n ≤ 21 := by
  have : n = 0 ∨ n = 1 ∨ n = 2 ∨ n = 3 ∨ n = 4 ∨ n = 5 ∨ n = 6 ∨ n = 7 := by omega
  rcases this with rfl | rfl | rfl | rfl | rfl | rfl | rfl | rfl <;> decide
def pD (p : Int × Int) : D := .tup [.int p.1, .int p.2]
/-- pairs of nodes, one of them a switch, below (a, b) -/
structure PairsTo (ks : List Bool) (ps : List (Int × Int)) (a b : Nat) : Prop where
  nd : ps.Nodup
  lt : ∀ p ∈ ps, 0 ≤ p.2 ∧ p.2 < p.1 ∧ (p.1 < a ∨ (p.1 = a ∧ p.2 < b))
  sw : ∀ p ∈ ps, (ks.getD p.1.toNat false = false ∨ ks.getD p.2.toNat false = false)
  ln : ps.length ≤ tri a + b
theorem PairsTo.row {ks : List Bool} {ps : List (Int × Int)} {a b : Nat} (h : PairsTo ks ps a b) (e : a = b) : PairsTo ks ps (a + 1) 0 :=
  ⟨h.nd, fun p hp => by have := h.lt p hp; omega, h.sw, by have := h.ln; show _ ≤ tri a + a + 0; omega⟩
theorem PairsTo.skip {ks : List Bool} {ps : List (Int × Int)} {a b : Nat} (h : PairsTo ks ps a b) : PairsTo ks ps a (b + 1) :=
  ⟨h.nd, fun p hp => by have := h.lt p hp; omega, h.sw, by have := h.ln; omega⟩
theorem PairsTo.add {ks : List Bool} {ps : List (Int × Int)} {a b : Nat} (h : PairsTo ks ps a b) (hb : b < a) (hs : ks.getD a false = false ∨ ks.getD b false = false) : PairsTo ks (ps ++ [((a : Int), (b : Int))]) a (b + 1) := by
  refine ⟨?_, fun p hp => ?_, fun p hp => ?_, by rw [List.length_append, List.length_singleton]; have := h.ln; omega⟩
  · rw [List.nodup_append]
    refine ⟨h.nd, List.nodup_cons.mpr ⟨List.not_mem_nil, List.nodup_nil⟩, fun p hp q hq e => ?_⟩
    rw [List.mem_singleton.mp hq] at e
    have := h.lt p hp
    rw [e] at this
    have h1 : ((a : Int), (b : Int)).1 = a := rfl
    have h2 : ((a : Int), (b : Int)).2 = b := rfl
    omega
  · rcases List.mem_append.mp hp with q | q
    · have := h.lt p q; omega
    · rw [List.mem_singleton.mp q]
      exact ⟨by show (0 : Int) ≤ b; omega, by show (b : Int) < a; omega, .inr ⟨rfl, by show (b : Int) < ((b + 1 : Nat) : Int); omega⟩⟩
  · rcases List.mem_append.mp hp with q | q
    · exact h.sw p q
    · rw [List.mem_singleton.mp q]
      simpa using hs
/-- lines so far, n nodes -/
structure LinesTo (n : Nat) (ls : List Ln) : Prop where
  ln : ∀ w ∈ ls, (0 ≤ w.1 ∧ w.1 < n) ∧ (0 ≤ w.2.1 ∧ w.2.1 < n) ∧ w.1 ≠ w.2.1 ∧ 0 ≤ w.2.2 ∧ w.2.2 ≤ 4
  nd : (ls.map normL).Nodup
  l21 : ls.length ≤ 21
theorem normL_1 {a b t : Int} (h : b < a) : normL (a, b, t) = (a, b) := if_pos h
theorem normL_2 {a b t : Int} (h : b < a) : normL (b, a, t) = (a, b) := if_neg (by show ¬ a < b; omega)
theorem LinesTo.add {n : Nat} {ls : List Ln} {w : Ln} (h : LinesTo n ls) (h1 : (0 ≤ w.1 ∧ w.1 < n) ∧ (0 ≤ w.2.1 ∧ w.2.1 < n) ∧ w.1 ≠ w.2.1 ∧ 0 ≤ w.2.2 ∧ w.2.2 ≤ 4) (h2 : normL w ∉ ls.map normL) (h3 : ls.length < 21) : LinesTo n (ls ++ [w]) := by
  refine ⟨fun u hu => ?_, ?_, by rw [List.length_append, List.length_singleton]; omega⟩
  · rcases List.mem_append.mp hu with q | q
    · exact h.ln u q
    · rw [List.mem_singleton.mp q]; exact h1
  · rw [List.map_append, List.nodup_append]
    refine ⟨h.nd, List.nodup_cons.mpr ⟨List.not_mem_nil, List.nodup_nil⟩, fun p hp q hq e => ?_⟩
    rw [List.map_singleton, List.mem_singleton] at hq
    rw [e, hq] at hp
    exact h2 hp
def c__law_net : Ct := fun ws Q => ∃ a b : Int, ws = [.cl (.int a), .cl (.int b)] ∧ ∀ N, NetOk N → Q (.cl (netD N))
theorem l__law_net : ∀ ws P, c__law_net ws P → ws.length = 2 := by rintro ws P ⟨a, b, rfl, _⟩; rfl
/-- _law_net: slots 0=_law_cell_here 1=_law_more 2=_law_numbers 3=_law_hosts 4=_law_switches 5=_law_kinds 6=_law_k 7=_law_pairs 8=_law_a 9=_law_b 10=_law_draws 11=_law_lines 12=_law_near -/
def a__law_net : AS :=
  aSeq (aSetC 2 (aCall c__law_draw (aCons (aV 0) (aCons (aC (.int 8)) (aCons (aBin dShl (aC (.int 1)) (aC (.int 20))) (aNil)))))) (aSeq (aSetC 3 (aBin dAdd (aC (.int 2)) (aBin dMod (aBin dIx (aV 2) (aC (.int 0))) (aC (.int 3))))) (aSeq (aSetC 4 (aBin dAdd (aC (.int 1)) (aBin dMod (aBin dIx (aV 2) (aC (.int 1))) (aC (.int 3))))) (aSeq (aSet 5 (aBin dMul (aLst (aCons (aC (.str "host")) (aNil))) (aV 3))) (aSeq (aFor (iR1 (aCons (aV 4) (aNil))) (agN 6) (aMut "list" 5 mInsert (aCons (aBin dMod (aBin dIx (aV 2) (aBin dAdd (aC (.int 2)) (aV 6))) (aBin dAdd (aCB fLen1 (aCons (aV 5) (aNil))) (aC (.int 1)))) (aCons (aC (.str "switch")) (aNil))))) (aSeq (aSet 7 (aLst (aNil))) (aSeq (aFor (iR1 (aCons (aCB fLen1 (aCons (aV 5) (aNil))) (aNil))) (agN 8) (aFor (iR1 (aCons (aV 8) (aNil))) (agN 9) (aIf (aOr (aB (aBin (dEq) (aBin dIx (aV 5) (aV 8)) (aC (.str "switch")))) (aB (aBin (dEq) (aBin dIx (aV 5) (aV 9)) (aC (.str "switch"))))) (aMut "list" 7 mAppend (aCons (aTup (aCons (aV 8) (aCons (aV 9) (aNil)))) (aNil))) (aNext)))) (aSeq (aSetC 10 (aCall c__law_draw (aCons (aV 1) (aCons (aBin dMul (aC (.int 2)) (aCB fLen1 (aCons (aV 7) (aNil)))) (aCons (aBin dShl (aC (.int 1)) (aC (.int 20))) (aNil)))))) (aSeq (aSet 11 (aLst (aNil))) (aSeq (aFor (iR1 (aCons (aCB fLen1 (aCons (aV 7) (aNil))) (aNil))) (agN 6) (aSeq (aAsgG (aBin dIx (aV 7) (aV 6)) (agT 2 (agCons (agN 8) (agCons (agN 9) (agNil))))) (aSeq (aSetC 12 (aBin (dNe) (aBin dIx (aV 5) (aV 8)) (aBin dIx (aV 5) (aV 9)))) (aIf (aOr (aB (aBin (dLt) (aBin dMod (aBin dIx (aV 10) (aBin dMul (aC (.int 2)) (aV 6))) (aC (.int 5))) (aC (.int 3)))) (aAnd (aB (aV 12)) (aB (aBin (dEq) (aBin dMod (aBin dIx (aV 10) (aBin dMul (aC (.int 2)) (aV 6))) (aC (.int 5))) (aC (.int 3)))))) (aIf (aB (aBin (dEq) (aBin dMod (aBin dIx (aV 10) (aBin dAdd (aBin dMul (aC (.int 2)) (aV 6)) (aC (.int 1)))) (aC (.int 2))) (aC (.int 0)))) (aMut "list" 11 mAppend (aCons (aTup (aCons (aV 8) (aCons (aV 9) (aCons (aBin dMod (aBin dDiv (aBin dIx (aV 10) (aBin dAdd (aBin dMul (aC (.int 2)) (aV 6)) (aC (.int 1)))) (aC (.int 2))) (aC (.int 4))) (aNil))))) (aNil))) (aMut "list" 11 mAppend (aCons (aTup (aCons (aV 9) (aCons (aV 8) (aCons (aBin dMod (aBin dDiv (aBin dIx (aV 10) (aBin dAdd (aBin dMul (aC (.int 2)) (aV 6)) (aC (.int 1)))) (aC (.int 2))) (aC (.int 4))) (aNil))))) (aNil)))) (aNext))))) (aCut (aIf (aB (aBin (dEq) (aBin dMod (aBin dIx (aV 2) (aC (.int 5))) (aC (.int 7))) (aC (.int 0)))) (aFor (iR1 (aCons (aCB fLen1 (aCons (aV 5) (aNil))) (aNil))) (agN 8) (aFor (iR1 (aCons (aV 8) (aNil))) (agN 9) (aIf (aAnd (aB (aBin (dEq) (aBin dIx (aV 5) (aV 8)) (aC (.str "host")))) (aAnd (aB (aBin (dEq) (aBin dIx (aV 5) (aV 9)) (aC (.str "host")))) (aB (aBin (dLt) (aCB fLen1 (aCons (aV 11) (aNil))) (aC (.int 20)))))) (aMut "list" 11 mAppend (aCons (aTup (aCons (aV 8) (aCons (aV 9) (aCons (aBin dMod (aBin dIx (aV 2) (aC (.int 6))) (aC (.int 5))) (aNil))))) (aNil))) (aNext)))) (aNext)) (aRet (aMakeK 0 2 2 c_Net___init__ (aCons (aV 5) (aCons (aV 11) (aNil))) (aCons (aBin dMod (aBin dDiv (aBin dIx (aV 2) (aC (.int 6))) (aC (.int 5))) (aC (.int 3))) (aCons (aBin dIx (aLst (aCons (aC (.int 0)) (aCons (aC (.int 1)) (aCons (aC (.int 0)) (aCons (aC (.int 2)) (aNil)))))) (aBin dMod (aBin dIx (aV 2) (aC (.int 7))) (aC (.int 4)))) (aNil)))))))))))))))
theorem w__law_net : ∀ ws P, c__law_net ws P → a__law_net { nx := fun _ => P (.cl .non), rt := fun w _ => P w } (startA 13 ws) := by
  rintro ws P ⟨c1, c2, rfl, h⟩
  show a__law_net _ [.im (.int c1), .im (.int c2), .non, .non, .non, .non, .non, .non, .non, .non, .non, .non, .non]
  unfold a__law_net
  walk_at "vs"
  refine ⟨by decide, c1, 8, _, rfl, by decide, by decide, by decide, fun xs hl hx => ?_⟩
  obtain ⟨n0, n1, n2, n3, n4, n5, n6, n7, rfl⟩ := len_8 (show xs.length = 8 from hl)
  walk_at "vs"
  have h2 : -1000000 ≤ 2 + n0 % 3 ∧ 2 + n0 % 3 ≤ 1000000 ∧ (0 + 1) * (2 + n0 % 3).toNat ≤ 1000000 := by omega
  refine ⟨by decide, by decide, by decide, h2, by omega, ?_⟩
  have eN : ∀ k : Int, 0 ≤ k → k < 8 → ∃ v, ixD [D.int n0, .int n1, .int n2, .int n3, .int n4, .int n5, .int n6, .int n7] k = some (.int v) := fun k q1 q2 => by
    obtain ⟨v, e, _⟩ := ixD_ints (xs := [n0, n1, n2, n3, n4, n5, n6, n7]) q1 (by simpa using q2)
    exact ⟨v, e⟩
  simp only [List.map_cons, List.map_nil]
  obtain ⟨NU, hNU⟩ : ∃ NU, NU = [D.int n0, .int n1, .int n2, .int n3, .int n4, .int n5, .int n6, .int n7] := ⟨_, rfl⟩
  rw [← hNU] at eN ⊢
  obtain ⟨ho, hho⟩ : ∃ ho : Nat, ho = (2 + n0 % 3).toNat := ⟨_, rfl⟩
  rw [← hho]
  refine for_up (fun i δ => ∃ (ks : List Bool) (a : AV), δ = [.im (.int c1), .im (.int c2), .im (.lst NU), .im (.int (2 + n0 % 3)), .im (.int (1 + n1 % 3)), .ow false (.fl (ks.map kD)), a, .non, .non, .non, .non, .non, .non] ∧ ks.length = ho + i ∧ (ks.filter (!·)).length = i) ⟨List.replicate ho true, .non, ?_, by simp, by simp⟩ ?_ ?_
  · have : (List.replicate ho true).map kD = (List.replicate ho [D.str "host"]).flatten := by
      clear hho
      induction ho with
      | zero => rfl
      | succ m ih => rw [List.replicate_succ, List.map_cons, ih, List.replicate_succ, List.flatten_cons]; rfl
    rw [this]
  · rintro i δ hi ⟨ks, a, rfl, hk, hsw⟩
    walk_at "vs"
    obtain ⟨v, hv⟩ := eN (2 + (0 + (i : Int))) (by omega) (by omega)
    rw [hv]
    walk_at "vs"
    have m0 := Int.emod_nonneg v (show (ks.length : Int) + 1 ≠ 0 by omega)
    have m1 := Int.emod_lt_of_pos v (show 0 < (ks.length : Int) + 1 by omega)
    refine ⟨by omega, ⟨by omega, m0, by omega⟩, ks.take (v % ((ks.length : Int) + 1)).toNat ++ [false] ++ ks.drop (v % ((ks.length : Int) + 1)).toNat, .im (.int (0 + (i : Int))), ?_, ?_, ?_⟩
    · rw [List.map_append, List.map_append, List.map_take, List.map_drop]
      rfl
    · rw [List.length_append, List.length_append, List.length_take, List.length_drop, List.length_singleton]
      omega
    · have e := congrArg (fun l => (l.filter (!·)).length) (List.take_append_drop (v % ((ks.length : Int) + 1)).toNat ks)
      simp only [List.filter_append, List.length_append] at e ⊢
      simp
      omega
  rintro δ ⟨ks, a, rfl, hk, hsw⟩
  have hs3 : (ks.filter (!·)).length ≤ 3 := by omega
  have hn : 3 ≤ ks.length ∧ ks.length ≤ 7 := by omega
  clear hk hho eN
  have hK : ∀ i : Int, 0 ≤ i → i < ks.length → ixD (ks.map kD) i = some (kD (ks.getD i.toNat false)) := fun i q1 q2 => ixD_kD q1 q2
  have oh : okD (.str "host") = true := okD_k true
  have os : okD (.str "switch") = true := okD_k false
  walk_at "vs"
  refine ⟨by decide, by omega, ?_⟩
  refine for_up (fun i δ => ∃ (ps : List (Int × Int)) (x y z : AV), δ = [.im (.int c1), .im (.int c2), .im (.lst NU), .im (.int (2 + n0 % 3)), .im (.int (1 + n1 % 3)), .ow false (.fl (ks.map kD)), x, .ow false (.fl (ps.map pD)), y, z, .non, .non, .non] ∧ PairsTo ks ps i 0) ⟨[], _, _, _, rfl, List.nodup_nil, fun p hp => (nomatch hp), fun p hp => (nomatch hp), by simp⟩ ?_ ?_
  · rintro i δ hi ⟨ps, x, y, z, rfl, hp⟩
    have hi : i < ks.length := by omega
    walk_at "vs"
    refine ⟨by omega, ?_⟩
    have e0 : (0 + (i : Int)).toNat = i := by omega
    refine for_up (fun j δ => ∃ (ps : List (Int × Int)) (z : AV), δ = [.im (.int c1), .im (.int c2), .im (.lst NU), .im (.int (2 + n0 % 3)), .im (.int (1 + n1 % 3)), .ow false (.fl (ks.map kD)), x, .ow false (.fl (ps.map pD)), .im (.int (0 + (i : Int))), z, .non, .non, .non] ∧ PairsTo ks ps i j) ⟨ps, _, rfl, hp⟩ ?_ ?_
    · rintro j δ hj ⟨ps, z, rfl, hp⟩
      have hj : j < i := by omega
      have ht := tri_le (show i + 1 ≤ 7 by omega)
      have ht2 : tri (i + 1) = tri i + i := rfl
      have hl := hp.ln
      walk_at "vs"
      rw [hK (0 + (i : Int)) (by omega) (by omega)]
      walk_at "vs"
      simp only [okD_k, os, eqD_ks, e0]
      refine ⟨trivial, trivial, ?_⟩
      have add : (ks.getD i false = false ∨ ks.getD j false = false) → ps.length < 1000000 ∧ ∃ (ps' : List (Int × Int)) (z : AV), ([.im (.int c1), .im (.int c2), .im (.lst NU), .im (.int (2 + n0 % 3)), .im (.int (1 + n1 % 3)), .ow false (.fl (ks.map kD)), x, .ow false (.fl (ps.map pD ++ [D.tup [.int (0 + (i : Int)), .int (0 + (j : Int))]])), .im (.int (0 + (i : Int))), .im (.int (0 + (j : Int))), .non, .non, .non] : List AV) =
          [.im (.int c1), .im (.int c2), .im (.lst NU), .im (.int (2 + n0 % 3)), .im (.int (1 + n1 % 3)), .ow false (.fl (ks.map kD)), x, .ow false (.fl (ps'.map pD)), .im (.int (0 + (i : Int))), z, .non, .non, .non] ∧ PairsTo ks ps' i (j + 1) := fun q => by
        refine ⟨by omega, ps ++ [((i : Int), (j : Int))], .im (.int (0 + (j : Int))), ?_, hp.add hj q⟩
        rw [List.map_append, Int.zero_add, Int.zero_add]
        rfl
      have e1 : (0 + (j : Int)).toNat = j := by omega
      split
      · rename_i q
        exact ⟨by decide, add (.inl (by simpa using q))⟩
      · rename_i q
        rw [hK (0 + (j : Int)) (by omega) (by omega)]
        walk_at "vs"
        simp only [okD_k, os, eqD_ks, e1, true_and]
        cases hb : ks.getD j false with
        | false =>
          simp only [hb, Bool.not_false, if_true]
          exact ⟨by decide, add (.inr hb)⟩
        | true =>
          simp only [hb, Bool.not_true, Bool.false_eq_true, if_false]
          exact ⟨ps, _, rfl, hp.skip⟩
    · rintro δ ⟨ps, z, rfl, hp⟩
      rw [e0] at hp
      exact ⟨ps, _, _, _, rfl, hp.row rfl⟩
  rintro δ ⟨ps, x, y, z, rfl, hp⟩
  have hpl : ps.length ≤ 21 := by
    have := hp.ln
    have e : ((ks.length : Int)).toNat = ks.length := by omega
    rw [e] at this
    have := tri_le hn.2
    omega
  have hplt : ∀ p ∈ ps, 0 ≤ p.2 ∧ p.2 < p.1 ∧ p.1 < ks.length := fun p q => by have := hp.lt p q; omega
  walk_at "vs"
  refine ⟨.inl (by decide), by decide, c2, 2 * (ps.length : Int), _, rfl, by omega, by decide, by decide, fun dr hdl hdx => ?_⟩
  walk_at "vs"
  refine ⟨by decide, by omega, ?_⟩
  refine for_up (fun k δ => ∃ (ls : List Ln) (x y z w : AV), δ = [.im (.int c1), .im (.int c2), .im (.lst NU), .im (.int (2 + n0 % 3)), .im (.int (1 + n1 % 3)), .ow false (.fl (ks.map kD)), x, .ow false (.fl (ps.map pD)), y, z, .im (.lst (dr.map .int)), .ow false (.fl (ls.map lnD)), w] ∧ LinesTo ks.length ls ∧ (ls.map normL).Sublist (ps.take k))
    ⟨[], _, _, _, _, rfl, ⟨fun p hp => (nomatch hp), List.nodup_nil, by simp⟩, by simp⟩ ?_ ?_
  · rintro k δ hk ⟨ls, x, y, z, w, rfl, hL, hS⟩
    have hk : k < ps.length := by omega
    obtain ⟨p, hpk⟩ : ∃ p, ps[k]? = some p := ⟨_, List.getElem?_eq_getElem hk⟩
    obtain ⟨pa, pb⟩ := p
    obtain ⟨q1, q2, q3⟩ : 0 ≤ pb ∧ pb < pa ∧ pa < ks.length := hplt _ (List.mem_of_getElem? hpk)
    have etk : ps.take (k + 1) = ps.take k ++ [(pa, pb)] := by rw [List.take_add_one, hpk]; rfl
    have e0 : (0 + (k : Int)).toNat = k := by omega
    walk_at "vs"
    rw [ixD_map pD (show 0 ≤ 0 + (k : Int) by omega) (by rw [e0]; exact hpk), show pD (pa, pb) = .tup [.int pa, .int pb] from rfl]
    walk_at "vs"
    rw [hK pa (by omega) q3]
    walk_at "vs"
    rw [hK pb q1 (by omega)]
    walk_at "vs"
    simp only [okD_k, eqD_kk]
    obtain ⟨d1, hd1, hm1, _⟩ := ixD_ints (xs := dr) (i := 2 * (0 + (k : Int))) (by omega) (by omega)
    obtain ⟨d2, hd2, hm2, _⟩ := ixD_ints (xs := dr) (i := 2 * (0 + (k : Int)) + 1) (by omega) (by omega)
    refine ⟨trivial, trivial, .inl (by decide), ?_⟩
    rw [hd1]
    walk_at "vs"
    have nxt : ∀ w' : AV, ∃ (ls' : List Ln) (x y z w : AV), ([.im (.int c1), .im (.int c2), .im (.lst NU), .im (.int (2 + n0 % 3)), .im (.int (1 + n1 % 3)), .ow false (.fl (ks.map kD)), .im (.int (0 + (k : Int))), .ow false (.fl (ps.map pD)), .im (.int pa), .im (.int pb), .im (.lst (dr.map .int)), .ow false (.fl (ls.map lnD)), w'] : List AV) =
        [.im (.int c1), .im (.int c2), .im (.lst NU), .im (.int (2 + n0 % 3)), .im (.int (1 + n1 % 3)), .ow false (.fl (ks.map kD)), x, .ow false (.fl (ps.map pD)), y, z, .im (.lst (dr.map .int)), .ow false (.fl (ls'.map lnD)), w] ∧ LinesTo ks.length ls' ∧ (ls'.map normL).Sublist (ps.take (k + 1)) := fun w' =>
      ⟨ls, _, _, _, _, rfl, hL, by rw [etk]; exact hS.trans (List.sublist_append_left _ _)⟩
    have add : ∀ (w : Ln) (w' : AV), normL w = (pa, pb) → ((0 ≤ w.1 ∧ w.1 < ks.length) ∧ (0 ≤ w.2.1 ∧ w.2.1 < ks.length) ∧ w.1 ≠ w.2.1 ∧ 0 ≤ w.2.2 ∧ w.2.2 ≤ 4) → ls.length < 1000000 ∧ ∃ (ls' : List Ln) (x y z w2 : AV), ([.im (.int c1), .im (.int c2), .im (.lst NU), .im (.int (2 + n0 % 3)), .im (.int (1 + n1 % 3)), .ow false (.fl (ks.map kD)), .im (.int (0 + (k : Int))), .ow false (.fl (ps.map pD)), .im (.int pa), .im (.int pb), .im (.lst (dr.map .int)), .ow false (.fl (ls.map lnD ++ [D.tup [.int w.1, .int w.2.1, .int w.2.2]])), w'] : List AV) =
        [.im (.int c1), .im (.int c2), .im (.lst NU), .im (.int (2 + n0 % 3)), .im (.int (1 + n1 % 3)), .ow false (.fl (ks.map kD)), x, .ow false (.fl (ps.map pD)), y, z, .im (.lst (dr.map .int)), .ow false (.fl (ls'.map lnD)), w2] ∧ LinesTo ks.length ls' ∧ (ls'.map normL).Sublist (ps.take (k + 1)) := fun w w' hw h1 => by
      have hlen : ls.length ≤ k := by
        have := hS.length_le
        rw [List.length_map, List.length_take] at this
        omega
      have hnin : normL w ∉ ls.map normL := fun q => by
        have nd2 : (ps.take (k + 1)).Nodup := hp.nd.sublist (List.take_sublist _ _)
        rw [etk, List.nodup_append] at nd2
        rw [hw] at q
        exact nd2.2.2 _ (hS.subset q) (pa, pb) List.mem_cons_self rfl
      refine ⟨by omega, ls ++ [w], .im (.int (0 + (k : Int))), .im (.int pa), .im (.int pb), w', ?_, hL.add h1 hnin (by omega), ?_⟩
      · rw [List.map_append]; rfl
      · rw [List.map_append, etk]
        exact hS.append (by rw [List.map_singleton, hw]; exact List.Sublist.refl _)
    refine ⟨by decide, ?_⟩
    by_cases c3 : d1 % 5 < 3
    · rw [if_pos c3]
      refine ⟨.inl (by decide), ?_⟩
      rw [hd2]
      walk_at "vs"
      refine ⟨by decide, ?_⟩
      split
      · refine ⟨.inl (by decide), by decide, by decide, by decide, ?_⟩
        exact add (pa, pb, d2 / 2 % 4) _ (normL_1 q2) ⟨⟨by show 0 ≤ pa; omega, q3⟩, ⟨q1, by show pb < _; omega⟩, by show pa ≠ pb; omega, by show 0 ≤ d2 / 2 % 4; omega, by show d2 / 2 % 4 ≤ 4; omega⟩
      · refine ⟨.inl (by decide), by decide, by decide, by decide, ?_⟩
        exact add (pb, pa, d2 / 2 % 4) _ (normL_2 q2) ⟨⟨q1, by show pb < _; omega⟩, ⟨by show 0 ≤ pa; omega, q3⟩, by show pb ≠ pa; omega, by show 0 ≤ d2 / 2 % 4; omega, by show d2 / 2 % 4 ≤ 4; omega⟩
    · rw [if_neg c3]
      cases hbb : (!ks.getD pa.toNat false == ks.getD pb.toNat false) with
      | false =>
        simp only [hbb, Bool.false_eq_true, if_false]
        exact nxt _
      | true =>
        simp only [hbb, if_true]
        refine ⟨.inl (by decide), ?_⟩
        refine ⟨by decide, ?_⟩
        split
        · refine ⟨.inl (by decide), ?_⟩
          rw [hd2]
          walk_at "vs"
          refine ⟨by decide, ?_⟩
          split
          · refine ⟨.inl (by decide), by decide, by decide, by decide, ?_⟩
            exact add (pa, pb, d2 / 2 % 4) _ (normL_1 q2) ⟨⟨by show 0 ≤ pa; omega, q3⟩, ⟨q1, by show pb < _; omega⟩, by show pa ≠ pb; omega, by show 0 ≤ d2 / 2 % 4; omega, by show d2 / 2 % 4 ≤ 4; omega⟩
          · refine ⟨.inl (by decide), by decide, by decide, by decide, ?_⟩
            exact add (pb, pa, d2 / 2 % 4) _ (normL_2 q2) ⟨⟨q1, by show pb < _; omega⟩, ⟨by show 0 ≤ pa; omega, q3⟩, by show pb ≠ pa; omega, by show 0 ≤ d2 / 2 % 4; omega, by show d2 / 2 % 4 ≤ 4; omega⟩
        · exact nxt _
  rintro δ ⟨ls, x, y, z, w, rfl, hL, hS⟩
  have hsw : ∀ w ∈ ls, ks.getD (normL w).1.toNat false = false ∨ ks.getD (normL w).2.toNat false = false := fun w hw => hp.sw _ (List.mem_of_mem_take (hS.subset (List.mem_map.mpr ⟨w, hw, rfl⟩)))
  clear hS hdx hdl hpl hplt hp
  rw [hNU]
  walk_at "vs"
  refine cut_by (fun δ => ∃ (ls : List Ln) (x y z : AV), δ = [.im (.int c1), .im (.int c2), .im (.lst [.int n0, .int n1, .int n2, .int n3, .int n4, .int n5, .int n6, .int n7]), .im (.int (2 + n0 % 3)), .im (.int (1 + n1 % 3)), .ow false (.fl (ks.map kD)), x, .ow false (.fl (ps.map pD)), y, z, .im (.lst (dr.map .int)), .ow false (.fl (ls.map lnD)), w] ∧ LinesTo ks.length ls) ?_ ?_
  · walk_at "vs"
    refine ⟨by decide, ?_⟩
    split
    · refine ⟨by omega, ?_⟩
      have eK : ∀ i : Nat, (0 + (i : Int)).toNat = i := fun i => by omega
      refine for_up (fun i δ => ∃ (ls : List Ln) (x y z : AV), δ = [.im (.int c1), .im (.int c2), .im (.lst [.int n0, .int n1, .int n2, .int n3, .int n4, .int n5, .int n6, .int n7]), .im (.int (2 + n0 % 3)), .im (.int (1 + n1 % 3)), .ow false (.fl (ks.map kD)), x, .ow false (.fl (ps.map pD)), y, z, .im (.lst (dr.map .int)), .ow false (.fl (ls.map lnD)), w] ∧ LinesTo ks.length ls ∧
        ∀ w ∈ ls, (ks.getD (normL w).1.toNat false = false ∨ ks.getD (normL w).2.toNat false = false) ∨ (normL w).1 < i) ⟨ls, _, _, _, rfl, hL, fun w hw => .inl (hsw w hw)⟩ ?_ ?_
      · rintro i δ hi ⟨ls, x, y, z, rfl, hL, hB⟩
        have hi : i < ks.length := by omega
        walk_at "vs"
        refine ⟨by omega, ?_⟩
        refine for_up (fun j δ => ∃ (ls : List Ln) (z : AV), δ = [.im (.int c1), .im (.int c2), .im (.lst [.int n0, .int n1, .int n2, .int n3, .int n4, .int n5, .int n6, .int n7]), .im (.int (2 + n0 % 3)), .im (.int (1 + n1 % 3)), .ow false (.fl (ks.map kD)), x, .ow false (.fl (ps.map pD)), .im (.int (0 + (i : Int))), z, .im (.lst (dr.map .int)), .ow false (.fl (ls.map lnD)), w] ∧ LinesTo ks.length ls ∧
          ∀ w ∈ ls, (ks.getD (normL w).1.toNat false = false ∨ ks.getD (normL w).2.toNat false = false) ∨ (normL w).1 < i ∨ ((normL w).1 = i ∧ (normL w).2 < j)) ⟨ls, _, rfl, hL, fun w hw => (hB w hw).imp id .inl⟩ ?_ ?_
        · rintro j δ hj ⟨ls, z, rfl, hL, hB⟩
          have hj : j < i := by omega
          have nxt : ∃ (ls' : List Ln) (z : AV), ([.im (.int c1), .im (.int c2), .im (.lst [.int n0, .int n1, .int n2, .int n3, .int n4, .int n5, .int n6, .int n7]), .im (.int (2 + n0 % 3)), .im (.int (1 + n1 % 3)), .ow false (.fl (ks.map kD)), x, .ow false (.fl (ps.map pD)), .im (.int (0 + (i : Int))), .im (.int (0 + (j : Int))), .im (.lst (dr.map .int)), .ow false (.fl (ls.map lnD)), w] : List AV) =
              [.im (.int c1), .im (.int c2), .im (.lst [.int n0, .int n1, .int n2, .int n3, .int n4, .int n5, .int n6, .int n7]), .im (.int (2 + n0 % 3)), .im (.int (1 + n1 % 3)), .ow false (.fl (ks.map kD)), x, .ow false (.fl (ps.map pD)), .im (.int (0 + (i : Int))), z, .im (.lst (dr.map .int)), .ow false (.fl (ls'.map lnD)), w] ∧ LinesTo ks.length ls' ∧
              ∀ w ∈ ls', (ks.getD (normL w).1.toNat false = false ∨ ks.getD (normL w).2.toNat false = false) ∨ (normL w).1 < i ∨ ((normL w).1 = i ∧ (normL w).2 < ((j + 1 : Nat) : Int)) := ⟨ls, _, rfl, hL, fun w hw => (hB w hw).imp id fun q => by omega⟩
          walk_at "vs"
          rw [hK (0 + (i : Int)) (by omega) (by omega)]
          walk_at "vs"
          simp only [okD_k, oh, eqD_kh, eK, true_and]
          cases hbi : ks.getD i false with
          | false =>
            simp only [hbi, Bool.false_eq_true, if_false]
            exact nxt
          | true =>
            simp only [hbi, if_true]
            rw [hK (0 + (j : Int)) (by omega) (by omega)]
            walk_at "vs"
            simp only [okD_k, oh, eqD_kh, eK, true_and]
            cases hbj : ks.getD j false with
            | false =>
              simp only [hbj, Bool.false_eq_true, if_false]
              exact nxt
            | true =>
              simp only [hbj, if_true]
              split
              · rename_i hlen
                have e6 : normL ((i : Int), (j : Int), n6 % 5) = ((i : Int), (j : Int)) := normL_1 (by omega)
                refine ⟨by decide, by decide, by omega, ls ++ [((i : Int), (j : Int), n6 % 5)], .im (.int (0 + (j : Int))), ?_, hL.add ⟨⟨by show (0 : Int) ≤ i; omega, by show (i : Int) < _; omega⟩, ⟨by show (0 : Int) ≤ j; omega, by show (j : Int) < _; omega⟩, by show (i : Int) ≠ j; omega, by show 0 ≤ n6 % 5; omega, by show n6 % 5 ≤ 4; omega⟩ ?_ (by omega), fun w hw => ?_⟩
                · rw [List.map_append, Int.zero_add, Int.zero_add]; rfl
                · intro q
                  obtain ⟨u, hu, eu⟩ := List.mem_map.mp q
                  rw [e6] at eu
                  have := hB u hu
                  rw [eu] at this
                  simp only [Int.toNat_natCast, hbi, hbj] at this
                  rcases this with (q | q) | q | q
                  · cases q
                  · cases q
                  · omega
                  · omega
                · rcases List.mem_append.mp hw with q | q
                  · exact (hB w q).imp id fun q => by omega
                  · rw [List.mem_singleton.mp q, e6]
                    exact .inr (.inr ⟨rfl, by show (j : Int) < ((j + 1 : Nat) : Int); omega⟩)
              · exact nxt
        · rintro δ ⟨ls, z, rfl, hL, hB⟩
          refine ⟨ls, _, _, _, rfl, hL, fun w hw => (hB w hw).imp id fun q => ?_⟩
          rcases q with q | q <;> omega
      · rintro δ ⟨ls, x, y, z2, rfl, hL, hB⟩
        exact ⟨ls, _, _, _, rfl, hL⟩
    · exact ⟨ls, _, _, _, rfl, hL⟩
  · rintro δ ⟨ls, x, y, z, rfl, hL⟩
    walk_at "vs"
    refine ⟨by decide, by decide, by decide, by decide, ?_⟩
    obtain ⟨er, he, he0, he2⟩ : ∃ er, ixD [D.int 0, .int 1, .int 0, .int 2] (n7 % 4) = some (.int er) ∧ 0 ≤ er ∧ er ≤ 2 := by
      have m0 := Int.emod_nonneg n7 (show (4 : Int) ≠ 0 by omega)
      have m1 := Int.emod_lt_of_pos n7 (show 0 < (4 : Int) by omega)
      generalize n7 % 4 = k at m0 m1
      have : k = 0 ∨ k = 1 ∨ k = 2 ∨ k = 3 := by omega
      rcases this with rfl | rfl | rfl | rfl
      · exact ⟨0, rfl, by decide, by decide⟩
      · exact ⟨1, rfl, by decide, by decide⟩
      · exact ⟨0, rfl, by decide, by decide⟩
      · exact ⟨2, rfl, by decide, by decide⟩
    rw [he]
    exact ⟨_, _, _, _, _, _, rfl, .inr (.inr rfl), .inr (.inr rfl), h ⟨ks, ls, n6 / 5 % 3, er⟩ ⟨hn.1, hn.2, hL.l21, hL.ln, hL.nd, by show 0 ≤ n6 / 5 % 3; omega, by show n6 / 5 % 3 ≤ 2; omega, he0, he2, hs3⟩⟩
/-! ### the paths of a net -/
def rowD (r : List Int) : D := .lst (r.map .int)
def ExtN (N : NetV) (r : List Int) (b : Int) : Prop := (0 ≤ b ∧ b < N.ks.length) ∧ b ∉ r ∧ ∃ a, r.getLast? = some a ∧ joinN N a b ≠ none
/-- rows of t + 1 nodes: a host, then switches -/
def RowT (N : NetV) : Nat → List Int → Prop
  | 0, r => ∃ a : Int, (0 ≤ a ∧ a < N.ks.length) ∧ hostN N a = true ∧ r = [a]
  | t + 1, r => ∃ r' b, RowT N t r' ∧ r = r' ++ [b] ∧ ExtN N r' b ∧ hostN N b = false
def FoundT (N : NetV) (t : Nat) (r : List Int) : Prop := ∃ s r' b, s < t ∧ RowT N s r' ∧ r = r' ++ [b] ∧ ExtN N r' b ∧ hostN N b = true
theorem RowT.len {N : NetV} : ∀ {t : Nat} {r : List Int}, RowT N t r → r.length = t + 1
  | 0, r, ⟨a, _, _, e⟩ => by rw [e]; rfl
  | t + 1, r, ⟨r', b, h, e, _⟩ => by rw [e, List.length_append, RowT.len h]; rfl
theorem RowT.last {N : NetV} {t : Nat} {r : List Int} (h : RowT N t r) : ∃ a r0, r = r0 ++ [a] := by
  cases t with
  | zero => obtain ⟨a, _, _, e⟩ := h; exact ⟨a, [], e⟩
  | succ t => obtain ⟨r', b, _, e, _⟩ := h; exact ⟨b, r', e⟩
theorem inD_ints (x : Int) (ns : List Int) : inD (.int x) (ns.map .int) = decide (x ∈ ns) := by
  unfold inD
  rw [Bool.eq_iff_iff, List.any_eq_true, decide_eq_true_eq]
  constructor
  · rintro ⟨d, hd, e⟩
    obtain ⟨y, hy, rfl⟩ := List.mem_map.mp hd
    rw [eqD_int] at e
    exact of_decide_eq_true e ▸ hy
  · intro h
    exact ⟨.int x, List.mem_map.mpr ⟨x, h, rfl⟩, by rw [eqD_int]; simp⟩
theorem set_skip {X Y : List (List Int)} {row : List Int} {j : Nat} {p : Int → Prop} (h : ∀ r, r ∈ X ↔ r ∈ Y ∨ ∃ b : Int, b < j ∧ r = row ++ [b] ∧ p b) (hn : ¬ p (0 + (j : Int))) : ∀ r, r ∈ X ↔ r ∈ Y ∨ ∃ b : Int, b < ((j + 1 : Nat) : Int) ∧ r = row ++ [b] ∧ p b := fun r => by
  rw [h]
  refine or_congr Iff.rfl ⟨fun ⟨b, q1, q⟩ => ⟨b, by omega, q⟩, fun ⟨b, q1, q2, q3⟩ => ⟨b, ?_, q2, q3⟩⟩
  by_cases e : b = 0 + (j : Int)
  · exact absurd (e ▸ q3) hn
  · omega
theorem set_add {X Y : List (List Int)} {row : List Int} {j : Nat} {p : Int → Prop} (h : ∀ r, r ∈ X ↔ r ∈ Y ∨ ∃ b : Int, b < j ∧ r = row ++ [b] ∧ p b) (hn : p (0 + (j : Int))) : ∀ r, r ∈ X ++ [row ++ [0 + (j : Int)]] ↔ r ∈ Y ∨ ∃ b : Int, b < ((j + 1 : Nat) : Int) ∧ r = row ++ [b] ∧ p b := fun r => by
  rw [List.mem_append, h, List.mem_singleton]
  constructor
  · rintro ((q | ⟨b, q1, q⟩) | q)
    · exact .inl q
    · exact .inr ⟨b, by omega, q⟩
    · exact .inr ⟨_, by omega, q, hn⟩
  · rintro (q | ⟨b, q1, q2, q3⟩)
    · exact .inl (.inl q)
    · by_cases e : b = 0 + (j : Int)
      · exact .inr (by rw [q2, e])
      · exact .inl (.inr ⟨b, by omega, q2, q3⟩)
end Vl
local macro_rules | `(tactic| walk_at "vs") => `(tactic| simp only [Vl.aSeq, Vl.aFor_eq, Vl.aIf, Vl.aB, Vl.aBin, Vl.aUn, Vl.aV, Vl.slotW, Vl.gt_z, Vl.gt_s, Vl.aCB, Vl.aCall, Vl.aCons, Vl.aNil, Vl.argW, Vl.dLt_eq, Vl.dLe_eq, Vl.dGt_eq, Vl.dGe_eq, Vl.dI0, Vl.dI, Vl.dAdd, Vl.dSub_eq, Vl.dMul, Vl.dDiv_eq, Vl.dMod_eq, Vl.dPow_eq, Vl.dShl_eq, Vl.dNeg, Vl.dNot, Vl.dIsN, Vl.dNotN, Vl.dEq, Vl.dNe, Vl.dIn, Vl.dIx, Vl.fLen_lst, Vl.fLen_tup, Vl.fLen_ow, Vl.fLen_bw, Vl.fLen_scr, Vl.fLen_str, Vl.fInt_int, Vl.fInt_bl, Vl.fAbs_int, Vl.fMax_int, Vl.fMin_int, Vl.fGcd_int, Vl.fLcm_int, Vl.fList_lst, Vl.fList_tup, Vl.fList_ow, Vl.fList_bw, Vl.fList_scr, Vl.seqC, Vl.lstC, Vl.itemsC, Vl.clW, Vl.W.toD, Vl.M.toD, Vl.clDs, Option.map_some, Option.map_none,
  Vl.aRet, Vl.aRetV, Vl.aRetN, Vl.aNext, Vl.aBreak, Vl.aCont, Vl.aC, Vl.aSet, Vl.aSetC, Vl.slotA, Vl.aDrop, Vl.aAsgG, Vl.agN, Vl.agT, Vl.agCons, Vl.agNil, Vl.iLst, Vl.iTup, Vl.iR1, Vl.iR2, Vl.aTup, Vl.aLst, Vl.aAnd, Vl.aOr, Vl.aNot, Vl.aAndV, Vl.aOrV, Vl.aIfE, Vl.aSl, Vl.aoS, Vl.aoN, Vl.aChain, Vl.aAugAdd, Vl.aAugSub, Vl.aMut, Vl.aMutS, Vl.mAppend, Vl.mPop, Vl.mPopAt, Vl.mReverse, Vl.tyM, Vl.aFrz, Vl.frz, Vl.aSetIx, Vl.aLc, Vl.wipeA, Vl.aYes,
  List.set_cons_zero, List.set_cons_succ, List.length_map, List.length_cons, List.length_nil, decide_eq_true_eq, Bool.not_true, Bool.not_false, if_true, if_false, Bool.false_eq_true, Vl.okD_int, Vl.okD_bl, Vl.okD_non, Vl.eqD_int, Vl.eqD_bl, Vl.eqD_non, true_and, and_true, Vl.snoc_int, Vl.aIsi, Vl.isi_bl_bool, Vl.isi_bl_int, Vl.isi_int_int, Vl.isi_int_bool, Vl.isi_non_int, Vl.isi_non_bool, Vl.isi_lst_list, Vl.isi_tup_list, Vl.isi_tup_tuple, Vl.isi_non_tuple, Vl.isi_non_list, Vl.isi_str_str, Vl.isi_lst_bool, Vl.isi_str_bool, Vl.isi_tup_bool, Vl.ixD_0, Vl.ixD_1, Vl.ixD_2, Vl.ixD_3, Vl.ixD_4, Vl.ixD_5, Vl.ixD_6, Vl.ixD_7, Vl.ixD_8, Vl.ixD_9, Vl.ixD_10, Vl.ixD_11, Vl.aFld, Vl.aMeth, Vl.aMake, Vl.aMakeK, Vl.mInsert, Vl.aIndex, Vl.fMax1_eq, Vl.fSorted_eq, List.getElem?_cons_zero, List.getElem?_cons_succ, List.cons_append, List.nil_append, Vl.aPar, Vl.aIsO, Vl.dNeS, Vl.aDNew, Vl.dEqO, Vl.aDGet, Vl.aDIx, Vl.dInD, Vl.kidsW, Vl.keyO, Vl.keyF, Vl.keysF, Vl.getK_map, Vl.M.toDs, Vl.refM, Vl.bwM, Vl.owM, Vl.aMakeO, Vl.aSetX, Vl.aSetCX, Vl.aDropX, Vl.aRetX, Vl.aAsgGX, Vl.aIfX, Vl.xP, Vl.tP, Vl.aBX, Vl.aAndX, Vl.aOrX, Vl.aNotX, Vl.aBinX, Vl.aCallL, Vl.aMethL, Vl.alHere, Vl.alCons, Vl.setP, Vl.apV, Vl.apFld, Vl.apIx, Vl.apKey, Vl.aMutP, Vl.aFSet, Vl.aDPutP, Vl.kidW, Vl.putM, Vl.dctM, Vl.aLstO, Vl.aoCons, Vl.aoNil, Vl.aDisp, Vl.dispGo, Vl.iLstG, Vl.xMut, Vl.fLenD, Vl.one, Vl.mRemove, Vl.apW, Vl.allW_nil, Vl.allW_cons, Vl.anHere, Vl.anCons, Vl.aCallN, Vl.aCallF, Vl.clAlls, Vl.clAll, Vl.flatW, Vl.flatD, Vl.flatDs, Bool.and_true, Bool.true_and, Vl.aDNewM, Vl.fSortT_eq, Vl.fSortDT_eq, Vl.fMinD_eq, Vl.fMaxD_eq, Vl.aForX_eq, Vl.aCallK, Vl.aCallD, Vl.xSortPop, Vl.dEqS, Vl.aSlT, Vl.aClE, Vl.aLenSet, Vl.aMakeD])
namespace Vl
open PySem PySem.Spec PyProof.Rows L2

/-! ### streams, entries -/
structure StrV where
  per : Int
  len : Int
  dl : Int
  path : List Int
def strDs (s : StrV) : List D := [.int s.per, .int s.len, .int s.dl, .lst (s.path.map .int)]
def strD (s : StrV) : D := .ins 1 (strDs s)
structure EntV where
  st : StrV
  os : List Int
def entD (e : EntV) : D := .tup [.ins 1 [.int e.st.per, .int e.st.len, .int e.st.dl, .lst (e.st.path.map .int)], .lst (e.os.map .int)]
def g_Stream (ds : List D) : Prop := ∃ s : StrV, ds = [.int s.per, .int s.len, .int s.dl, .lst (s.path.map .int)]
theorem okD_il (ns : List Int) : okD (.lst (ns.map D.int)) = true := okD_map (dep_int 0) (by decide)
/-! ### ports -/
def portsL : List Int → List (Int × Int)
  | a :: b :: r => (a, b) :: portsL (b :: r)
  | _ => []
theorem portsL_len : ∀ p : List Int, (portsL p).length = p.length - 1
  | [] => rfl
  | [_] => rfl
  | a :: b :: r => by
    rw [portsL, List.length_cons, portsL_len (b :: r)]
    simp
theorem portsL_at : ∀ {p : List Int} {k : Nat} {a b : Int}, p[k]? = some a → p[k + 1]? = some b → (portsL p)[k]? = some (a, b)
  | [], _, _, _, h, _ => by simp at h
  | [_], 0, _, _, _, h => by simp at h
  | [_], k + 1, _, _, h, _ => by simp at h
  | x :: y :: r, 0, a, b, h1, h2 => by
    simp at h1 h2
    subst h1; subst h2
    rfl
  | x :: y :: r, k + 1, a, b, h1, h2 => by
    rw [portsL, List.getElem?_cons_succ]
    exact portsL_at (by simpa using h1) (by simpa using h2)
theorem portsL_of {p : List Int} {k : Nat} {q : Int × Int} (h : (portsL p)[k]? = some q) : p[k]? = some q.1 ∧ p[k + 1]? = some q.2 := by
  have hk : k < (portsL p).length := by
    apply Classical.byContradiction
    intro z
    rw [List.getElem?_eq_none_iff.mpr (by omega)] at h
    cases h
  rw [portsL_len] at hk
  have e1 : p[k]? = some p[k] := List.getElem?_eq_getElem (by omega)
  have e2 : p[k + 1]? = some p[k + 1] := List.getElem?_eq_getElem (by omega)
  have e3 := portsL_at e1 e2
  rw [h] at e3
  cases e3
  exact ⟨e1, e2⟩
structure PathOk (N : NetV) (p : List Int) : Prop where
  l2 : 2 ≤ p.length
  l6 : p.length ≤ 6
  nd : p.Nodup
  inn : ∀ x ∈ p, 0 ≤ x ∧ x < N.ks.length
  jn : ∀ k a b, p[k]? = some a → p[k + 1]? = some b → joinN N a b ≠ none
theorem PathOk.snoc {N : NetV} {p : List Int} {b : Int} (hl : p.length ≤ 5) (h1 : 1 ≤ p.length) (nd : p.Nodup) (inn : ∀ x ∈ p, 0 ≤ x ∧ x < N.ks.length) (jn : ∀ k a b, p[k]? = some a → p[k + 1]? = some b → joinN N a b ≠ none) (hE : ExtN N p b) : PathOk N (p ++ [b]) := by
  refine ⟨by rw [List.length_append, List.length_singleton]; omega, by rw [List.length_append, List.length_singleton]; omega, ?_, fun x hx => ?_, fun k a c q1 q2 => ?_⟩
  · rw [List.nodup_append]
    exact ⟨nd, List.nodup_cons.mpr ⟨List.not_mem_nil, List.nodup_nil⟩, fun x hx y hy e => by rw [List.mem_singleton.mp hy] at e; exact hE.2.1 (e ▸ hx)⟩
  · rcases List.mem_append.mp hx with q | q
    · exact inn x q
    · rw [List.mem_singleton.mp q]; exact hE.1
  · by_cases e : k + 1 < p.length
    · rw [List.getElem?_append_left (by omega)] at q1
      rw [List.getElem?_append_left e] at q2
      exact jn k a c q1 q2
    · have hk : k + 1 = p.length := by
        have : k + 1 < (p ++ [b]).length := by
          apply Classical.byContradiction
          intro z
          rw [List.getElem?_eq_none_iff.mpr (by omega)] at q2
          cases q2
        rw [List.length_append, List.length_singleton] at this
        omega
      obtain ⟨a', g1, g2⟩ := hE.2.2
      rw [List.getElem?_append_left (by omega)] at q1
      rw [List.getElem?_append_right (by omega), show k + 1 - p.length = 0 by omega] at q2
      rw [List.getLast?_eq_getElem?, show p.length - 1 = k by omega, q1] at g1
      cases g1
      cases q2
      exact g2
theorem RowT.ok {N : NetV} : ∀ {t : Nat} {r : List Int}, RowT N t r → r.Nodup ∧ (∀ x ∈ r, 0 ≤ x ∧ x < N.ks.length) ∧ ∀ k a b, r[k]? = some a → r[k + 1]? = some b → joinN N a b ≠ none
  | 0, r, ⟨a, h, _, e⟩ => by
    subst e
    exact ⟨List.nodup_cons.mpr ⟨List.not_mem_nil, List.nodup_nil⟩, fun x hx => by rw [List.mem_singleton.mp hx]; exact h, fun k a b _ q => by simp at q⟩
  | t + 1, r, ⟨r', b, h, e, hE, _⟩ => by
    subst e
    obtain ⟨i1, i2, i3⟩ := RowT.ok h
    refine ⟨?_, fun x hx => ?_, fun k a c q1 q2 => ?_⟩
    · rw [List.nodup_append]
      exact ⟨i1, List.nodup_cons.mpr ⟨List.not_mem_nil, List.nodup_nil⟩, fun x hx y hy e => by rw [List.mem_singleton.mp hy] at e; exact hE.2.1 (e ▸ hx)⟩
    · rcases List.mem_append.mp hx with q | q
      · exact i2 x q
      · rw [List.mem_singleton.mp q]; exact hE.1
    · by_cases e : k + 1 < r'.length
      · rw [List.getElem?_append_left (by omega)] at q1
        rw [List.getElem?_append_left e] at q2
        exact i3 k a c q1 q2
      · have hk : k + 1 = r'.length := by
          have : k + 1 < (r' ++ [b]).length := by
            apply Classical.byContradiction
            intro z
            rw [List.getElem?_eq_none_iff.mpr (by omega)] at q2
            cases q2
          rw [List.length_append, List.length_singleton] at this
          omega
        obtain ⟨a', g1, g2⟩ := hE.2.2
        rw [List.getElem?_append_left (by omega)] at q1
        rw [List.getElem?_append_right (by omega), show k + 1 - r'.length = 0 by omega] at q2
        rw [List.getLast?_eq_getElem?, show r'.length - 1 = k by omega, q1] at g1
        cases g1
        cases q2
        exact g2
theorem FoundT.ok {N : NetV} {m : Nat} (hm : m ≤ 4) {r : List Int} (h : FoundT N m r) : PathOk N r := by
  obtain ⟨s, r', b, hs, h, rfl, hE, _⟩ := h
  obtain ⟨i1, i2, i3⟩ := h.ok
  have hl := h.len
  exact PathOk.snoc (by omega) (by omega) i1 i2 i3 hE
theorem RowT.way {N : NetV} : ∀ {t : Nat} {r : List Int}, RowT N t r → ∀ h, 1 ≤ h → h < r.length → hostN N (r.getD h 0) = false
  | 0, r, ⟨a, h, _, e⟩ => fun k h1 h2 => by
    rw [e] at h2
    simp at h2
    omega
  | t + 1, r, ⟨r', b, h, e, hE, hb⟩ => fun k h1 h2 => by
    have ih := RowT.way h
    rw [e, List.length_append, List.length_singleton] at h2
    rw [e, List.getD_eq_getElem?_getD]
    by_cases q : k < r'.length
    · rw [List.getElem?_append_left q, ← List.getD_eq_getElem?_getD]
      exact ih k h1 q
    · rw [List.getElem?_append_right (by omega), show k - r'.length = 0 by omega]
      exact hb
theorem FoundT.way {N : NetV} {m : Nat} {r : List Int} (h : FoundT N m r) : (∀ h, 1 ≤ h → h + 1 < r.length → hostN N (r.getD h 0) = false) ∧ hostN N (r.getD (r.length - 1) 0) = true := by
  obtain ⟨s, r', b, hs, h, rfl, hE, hb⟩ := h
  constructor
  · intro k h1 h2
    rw [List.length_append, List.length_singleton] at h2
    rw [List.getD_eq_getElem?_getD, List.getElem?_append_left (by omega), ← List.getD_eq_getElem?_getD]
    exact h.way k h1 (by omega)
  · rw [List.getD_eq_getElem?_getD, List.length_append, List.length_singleton, List.getElem?_append_right (by omega), show r'.length + 1 - 1 - r'.length = 0 by omega]
    exact hb
theorem RowT.first {N : NetV} : ∀ {t : Nat} {r : List Int}, RowT N t r → hostN N (r.getD 0 0) = true
  | 0, r, ⟨a, h, hh, e⟩ => by rw [e]; exact hh
  | t + 1, r, ⟨r', b, h, e, _⟩ => by
    have ih := RowT.first h
    have hl := h.len
    rw [e, List.getD_eq_getElem?_getD, List.getElem?_append_left (by omega), ← List.getD_eq_getElem?_getD]
    exact ih
theorem FoundT.first {N : NetV} {m : Nat} {r : List Int} (h : FoundT N m r) : hostN N (r.getD 0 0) = true := by
  obtain ⟨s, r', b, hs, h, rfl, _⟩ := h
  have hl := h.len
  rw [List.getD_eq_getElem?_getD, List.getElem?_append_left (by omega), ← List.getD_eq_getElem?_getD]
  exact h.first
structure EntOk (N : NetV) (e : EntV) : Prop where
  p : PathOk N e.st.path
  lo : e.os.length + 1 = e.st.path.length
  per1 : 1 ≤ e.st.per
  per2 : e.st.per ≤ 12
  len1 : 1 ≤ e.st.len
/-- an entry that may still be short of offsets -/
structure EntPre (N : NetV) (e : EntV) : Prop where
  p : PathOk N e.st.path
  lo : e.os.length + 1 ≤ e.st.path.length
  per1 : 1 ≤ e.st.per
  len1 : 1 ≤ e.st.len
theorem EntOk.pre {N : NetV} {e : EntV} (h : EntOk N e) : EntPre N e := ⟨h.p, by have := h.lo; omega, h.per1, h.len1⟩
/-- when what leaves at o over the line is there and may go on -/
def arrN (N : NetV) (a b o len : Int) : Int := o + len + (joinN N a b).getD 0 + (if hostN N b = true then 0 else N.pr)
/-- an entry as it is drawn -/
structure EntMx (fs : List (List Int)) (e : EntV) : Prop where
  pm : e.st.path ∈ fs
  ln3 : e.st.len ≤ 3
  per4 : 4 ≤ e.st.per
  ob : ∀ o ∈ e.os, 0 ≤ o ∧ o ≤ 120
  oi : ∀ (j : Nat) o, e.os[j]? = some o → 0 ≤ o ∧ o ≤ 12 + 20 * (j : Int)
  p6 : e.st.per ∈ ([4, 5, 6, 8, 10, 12] : List Int)
  dl1 : 1 ≤ e.st.dl
  dl3 : e.st.dl ≤ 300
theorem joinL_b : ∀ {ls : List Ln} {a b t : Int}, (∀ w ∈ ls, 0 ≤ w.2.2 ∧ w.2.2 ≤ 4) → joinL a b ls = some t → 0 ≤ t ∧ t ≤ 4
  | [], a, b, t, _, h => by cases h
  | w :: r, a, b, t, hw, h => by
    unfold joinL at h
    split at h
    · cases h; exact hw w List.mem_cons_self
    · exact joinL_b (fun v hv => hw v (List.mem_cons_of_mem _ hv)) h
theorem NetOk.dl {N : NetV} (h : NetOk N) (a b : Int) : 0 ≤ (joinN N a b).getD 0 ∧ (joinN N a b).getD 0 ≤ 4 := by
  cases e : joinN N a b with
  | none => exact ⟨by decide, by decide⟩
  | some t => exact joinL_b (fun w hw => (h.ln w hw).2.2.2) e
/-! ### places, ports, calls on entries -/
def arrE (N : NetV) (e : EntV) (h : Nat) : Int := arrN N (e.st.path.getD h 0) (e.st.path.getD (h + 1) 0) (e.os.getD h 0) e.st.len
def winT (e : EntV) (h : Nat) : Ln := (e.os.getD h 0, e.st.len, e.st.per)
def portE (e : EntV) (h : Nat) : Int × Int := (e.st.path.getD h 0, e.st.path.getD (h + 1) 0)
def dfl : EntV := ⟨⟨1, 1, 1, []⟩, []⟩
theorem getD_at {xs : List Int} {k : Nat} (h : k < xs.length) : xs[k]? = some (xs.getD k 0) := by
  rw [List.getD_eq_getElem?_getD, List.getElem?_eq_getElem h]; rfl
theorem EntPre.at {N : NetV} {e : EntV} (h : EntPre N e) {t : Nat} (ht : t < e.os.length) : e.st.path[t]? = some (e.st.path.getD t 0) ∧ e.st.path[t + 1]? = some (e.st.path.getD (t + 1) 0) ∧ e.os[t]? = some (e.os.getD t 0) ∧
    joinN N (e.st.path.getD t 0) (e.st.path.getD (t + 1) 0) ≠ none ∧ (0 ≤ e.st.path.getD (t + 1) 0 ∧ e.st.path.getD (t + 1) 0 < N.ks.length) ∧ (0 ≤ e.st.path.getD t 0 ∧ e.st.path.getD t 0 < N.ks.length) := by
  have hl := h.lo
  have e1 := getD_at (xs := e.st.path) (k := t) (by omega)
  have e2 := getD_at (xs := e.st.path) (k := t + 1) (by omega)
  exact ⟨e1, e2, getD_at ht, h.p.jn _ _ _ e1 e2, h.p.inn _ (List.mem_of_getElem? e2), h.p.inn _ (List.mem_of_getElem? e1)⟩
theorem EntOk.at {N : NetV} {e : EntV} (h : EntOk N e) {t : Nat} (ht : t < e.os.length) : e.st.path[t]? = some (e.st.path.getD t 0) ∧ e.st.path[t + 1]? = some (e.st.path.getD (t + 1) 0) ∧ e.os[t]? = some (e.os.getD t 0) ∧
    joinN N (e.st.path.getD t 0) (e.st.path.getD (t + 1) 0) ≠ none ∧ (0 ≤ e.st.path.getD (t + 1) 0 ∧ e.st.path.getD (t + 1) 0 < N.ks.length) ∧ (0 ≤ e.st.path.getD t 0 ∧ e.st.path.getD t 0 < N.ks.length) := h.pre.at ht
theorem cut_take (ns : List Int) (k : Nat) : cutD (ns.map D.int) none (some (k : Int)) = (ns.take k).map D.int := by
  rw [cutD_cutL]
  congr 1
  unfold cutL
  rw [HT.sIx_nat]
  show (ns.drop 0).take (min k ns.length - 0) = ns.take k
  rw [List.drop_zero, Nat.sub_zero, List.take_eq_take_iff]
  omega
theorem portsL_mem {p : List Int} {q : Int × Int} : q ∈ portsL p ↔ ∃ o, o < p.length - 1 ∧ q = (p.getD o 0, p.getD (o + 1) 0) := by
  constructor
  · intro h
    obtain ⟨k, hk⟩ := List.mem_iff_getElem?.mp h
    have hk2 : k < (portsL p).length := by
      apply Classical.byContradiction
      intro z
      rw [List.getElem?_eq_none_iff.mpr (by omega)] at hk
      cases hk
    rw [portsL_len] at hk2
    rw [portsL_at (getD_at (by omega)) (getD_at (by omega))] at hk
    cases hk
    exact ⟨k, hk2, rfl⟩
  · rintro ⟨o, ho, rfl⟩
    exact List.mem_of_getElem? (portsL_at (getD_at (by omega)) (getD_at (by omega)))
theorem nodup_getD {p : List Int} (nd : p.Nodup) {i j : Nat} (hi : i < p.length) (hj : j < p.length) (e : p.getD i 0 = p.getD j 0) : i = j := by
  have h1 := getD_at hi
  have h2 := getD_at hj
  rw [← e] at h2
  exact (List.getElem?_inj hi nd).mp (h1.trans h2.symm)
theorem inD_p (q : Int × Int) (l : List (Int × Int)) : inD (pD q) (l.map pD) = decide (q ∈ l) := by
  unfold inD
  rw [Bool.eq_iff_iff, List.any_eq_true, decide_eq_true_eq]
  constructor
  · rintro ⟨d, hd, e⟩
    obtain ⟨y, hy, rfl⟩ := List.mem_map.mp hd
    have e2 := eqD_p2 y.1 y.2 q.1 q.2
    have e3 : eqD (pD y) (pD q) = decide (y.1 = q.1 ∧ y.2 = q.2) := e2
    rw [e3] at e
    have := of_decide_eq_true e
    rw [show q = y from Prod.ext this.1.symm this.2.symm]
    exact hy
  · intro h
    exact ⟨pD q, List.mem_map.mpr ⟨q, h, rfl⟩, (eqD_p2 q.1 q.2 q.1 q.2).trans (by simp)⟩
theorem okD_ps (l : List (Int × Int)) : okD (.lst (l.map pD)) = true := okD_map (f := pD) (n := 1) (fun q => dep_tup fun x hx => by
  simp only [List.mem_cons, List.not_mem_nil, or_false] at hx
  rcases hx with rfl | rfl <;> exact dep_int 0 _) (by decide)
theorem ixOf_p {q : Int × Int} {p : List Int} (h : q ∈ portsL p) : ∃ o, o < p.length - 1 ∧ q = (p.getD o 0, p.getD (o + 1) 0) ∧ ixOf (pD q) ((portsL p).map pD) = o := by
  have h0 : inD (pD q) ((portsL p).map pD) = true := by rw [inD_p]; exact decide_eq_true h
  obtain ⟨z, h1, h2, _⟩ := ixOf_at (pD q) h0
  rw [List.getElem?_map] at h1
  cases e : (portsL p)[ixOf (pD q) ((portsL p).map pD)]? with
  | none => rw [e] at h1; cases h1
  | some y =>
    rw [e] at h1
    cases h1
    have e3 : eqD (pD y) (pD q) = decide (y.1 = q.1 ∧ y.2 = q.2) := eqD_p2 y.1 y.2 q.1 q.2
    rw [e3] at h2
    have h2 := of_decide_eq_true h2
    have hk2 : ixOf (pD q) ((portsL p).map pD) < (portsL p).length := by
      apply Classical.byContradiction
      intro z
      rw [List.getElem?_eq_none_iff.mpr (by omega)] at e
      cases e
    rw [portsL_len] at hk2
    refine ⟨_, hk2, ?_, rfl⟩
    rw [portsL_at (getD_at (by omega)) (getD_at (by omega))] at e
    cases e
    exact Prod.ext h2.1.symm h2.2.symm
theorem getE {pl : List EntV} {k : Nat} (hk : k < pl.length) : pl[k]? = some (pl.getD k dfl) := by rw [List.getD_eq_getElem?_getD, List.getElem?_eq_getElem hk]; rfl
theorem rows_ne {m : Nat} {N : NetV} {fs : List (List Int)} (h : ∀ r, r ∈ fs ↔ FoundT N m r) (hm : m ≤ 4) : ∀ r ∈ fs, PathOk N r := fun r hr => FoundT.ok hm ((h r).mp hr)
theorem eqD_self {d : D} (h : okD d = true) : eqD d d = true := eqD_lst_refl _ (SeqAt.canLay_of_shaped h)
theorem lvD_ent (e : EntV) : lvD g_Stream 1 2 (entD e) := .inr ⟨_, .inr rfl, fun d hd => by
  simp only [List.mem_cons, List.not_mem_nil, or_false] at hd
  rcases hd with rfl | rfl
  · exact .inl ⟨rfl, e.st, rfl⟩
  · refine .inr ⟨_, .inl rfl, fun x hx => ?_⟩
    obtain ⟨n, _, rfl⟩ := List.mem_map.mp hx
    exact True.intro⟩
theorem cut_takeF {α : Type} (f : α → D) (xs : List α) (k : Nat) : cutD (xs.map f) none (some (k : Int)) = (xs.take k).map f := by
  rw [cutD_cutL]
  congr 1
  unfold cutL
  rw [HT.sIx_nat]
  show (xs.drop 0).take (min k xs.length - 0) = xs.take k
  rw [List.drop_zero, Nat.sub_zero, List.take_eq_take_iff]
  omega
theorem cut_dropF {α : Type} (f : α → D) (xs : List α) (k : Nat) : cutD (xs.map f) (some (k : Int)) none = (xs.drop k).map f := by
  rw [cutD_cutL]
  congr 1
  unfold cutL
  rw [HT.sIx_nat]
  show (xs.drop (min k xs.length)).take (xs.length - min k xs.length) = xs.drop k
  rw [List.take_of_length_le (by rw [List.length_drop]; omega)]
  by_cases h : k ≤ xs.length
  · rw [Nat.min_eq_left h]
  · rw [Nat.min_eq_right (by omega), List.drop_length, List.drop_of_length_le (by omega)]
theorem ixN_nn {n : Nat} {i : Int} (h0 : 0 ≤ i) (h1 : i < n) : ixN n i = some i.toNat := by
  unfold ixN
  rw [if_pos h0, if_pos (by omega)]
end Vl
set_option maxHeartbeats 1000000
local macro_rules | `(tactic| walk_at "vs") => `(tactic| simp only [Vl.aSeq, Vl.aFor_eq, Vl.aIf, Vl.aB, Vl.aBin, Vl.aUn, Vl.aV, Vl.slotW, Vl.gt_z, Vl.gt_s, Vl.aCB, Vl.aCall, Vl.aCons, Vl.aNil, Vl.argW, Vl.dLt_eq, Vl.dLe_eq, Vl.dGt_eq, Vl.dGe_eq, Vl.dI0, Vl.dI, Vl.dAdd, Vl.dSub_eq, Vl.dMul, Vl.dDiv_eq, Vl.dMod_eq, Vl.dPow_eq, Vl.dShl_eq, Vl.dNeg, Vl.dNot, Vl.dIsN, Vl.dNotN, Vl.dEq, Vl.dNe, Vl.dIn, Vl.dIx, Vl.fLen_lst, Vl.fLen_tup, Vl.fLen_ow, Vl.fLen_bw, Vl.fLen_scr, Vl.fLen_str, Vl.fInt_int, Vl.fInt_bl, Vl.fAbs_int, Vl.fMax_int, Vl.fMin_int, Vl.fGcd_int, Vl.fLcm_int, Vl.fList_lst, Vl.fList_tup, Vl.fList_ow, Vl.fList_bw, Vl.fList_scr, Vl.seqC, Vl.lstC, Vl.itemsC, Vl.clW, Vl.W.toD, Vl.M.toD, Vl.clDs, Option.map_some, Option.map_none,
  Vl.aRet, Vl.aRetV, Vl.aRetN, Vl.aNext, Vl.aBreak, Vl.aCont, Vl.aC, Vl.aSet, Vl.aSetC, Vl.slotA, Vl.aDrop, Vl.aAsgG, Vl.agN, Vl.agT, Vl.agCons, Vl.agNil, Vl.iLst, Vl.iTup, Vl.iR1, Vl.iR2, Vl.aTup, Vl.aLst, Vl.aAnd, Vl.aOr, Vl.aNot, Vl.aAndV, Vl.aOrV, Vl.aIfE, Vl.aSl, Vl.aoS, Vl.aoN, Vl.aChain, Vl.aAugAdd, Vl.aAugSub, Vl.aMut, Vl.aMutS, Vl.mAppend, Vl.mPop, Vl.mPopAt, Vl.mReverse, Vl.tyM, Vl.aFrz, Vl.frz, Vl.aSetIx, Vl.aLc, Vl.wipeA, Vl.aYes,
  List.set_cons_zero, List.set_cons_succ, List.length_map, List.length_cons, List.length_nil, decide_eq_true_eq, Bool.not_true, Bool.not_false, if_true, if_false, Bool.false_eq_true, Vl.okD_int, Vl.okD_bl, Vl.okD_non, Vl.eqD_int, Vl.eqD_bl, Vl.eqD_non, true_and, and_true, Vl.snoc_int, Vl.aIsi, Vl.isi_bl_bool, Vl.isi_bl_int, Vl.isi_int_int, Vl.isi_int_bool, Vl.isi_non_int, Vl.isi_non_bool, Vl.isi_lst_list, Vl.isi_tup_list, Vl.isi_tup_tuple, Vl.isi_non_tuple, Vl.isi_non_list, Vl.isi_str_str, Vl.isi_lst_bool, Vl.isi_str_bool, Vl.isi_tup_bool, Vl.ixD_0, Vl.ixD_1, Vl.ixD_2, Vl.ixD_3, Vl.ixD_4, Vl.ixD_5, Vl.ixD_6, Vl.ixD_7, Vl.ixD_8, Vl.ixD_9, Vl.ixD_10, Vl.ixD_11, Vl.aFld, Vl.aMeth, Vl.aMake, Vl.aMakeK, Vl.mInsert, Vl.aIndex, Vl.fMax1_eq, Vl.fSorted_eq, List.getElem?_cons_zero, List.getElem?_cons_succ, List.cons_append, List.nil_append, Vl.aPar, Vl.aIsO, Vl.dNeS, Vl.aDNew, Vl.dEqO, Vl.aDGet, Vl.aDIx, Vl.dInD, Vl.kidsW, Vl.keyO, Vl.keyF, Vl.keysF, Vl.getK_map, Vl.M.toDs, Vl.refM, Vl.bwM, Vl.owM, Vl.aMakeO, Vl.aSetX, Vl.aSetCX, Vl.aDropX, Vl.aRetX, Vl.aAsgGX, Vl.aIfX, Vl.xP, Vl.tP, Vl.aBX, Vl.aAndX, Vl.aOrX, Vl.aNotX, Vl.aBinX, Vl.aCallL, Vl.aMethL, Vl.alHere, Vl.alCons, Vl.setP, Vl.apV, Vl.apFld, Vl.apIx, Vl.apKey, Vl.aMutP, Vl.aFSet, Vl.aDPutP, Vl.kidW, Vl.putM, Vl.dctM, Vl.aLstO, Vl.aoCons, Vl.aoNil, Vl.aDisp, Vl.dispGo, Vl.iLstG, Vl.xMut, Vl.fLenD, Vl.one, Vl.mRemove, Vl.apW, Vl.allW_nil, Vl.allW_cons, Vl.anHere, Vl.anCons, Vl.aCallN, Vl.aCallF, Vl.clAlls, Vl.clAll, Vl.flatW, Vl.flatD, Vl.flatDs, Bool.and_true, Bool.true_and, Vl.aDNewM, Vl.fSortT_eq, Vl.fSortDT_eq, Vl.fMinD_eq, Vl.fMaxD_eq, Vl.aForX_eq, Vl.aCallK, Vl.aCallD, Vl.xSortPop, Vl.dEqS, Vl.aSlT, Vl.aClE, Vl.aLenSet, Vl.aMakeD])
namespace Vl
open PySem PySem.Spec PyProof.Rows L2
/-! ### neighbours -/
/-- what the graph alone asks of a net -/
structure NetW (N : NetV) : Prop where
  n60 : N.ks.length ≤ 60
  l60 : N.ls.length ≤ 60
  ln : ∀ w ∈ N.ls, (0 ≤ w.1 ∧ w.1 < N.ks.length) ∧ (0 ≤ w.2.1 ∧ w.2.1 < N.ks.length) ∧ w.1 ≠ w.2.1
  nd : (N.ls.map normL).Nodup
theorem NetOk.w {N : NetV} (h : NetOk N) : NetW N := ⟨by have := h.n7; omega, by have := h.l21; omega, fun w hw => ⟨(h.ln w hw).1, (h.ln w hw).2.1, (h.ln w hw).2.2.1⟩, h.nd⟩
/-- the nodes that are joined with a, ascending -/
def nbrN (N : NetV) (a : Int) : List Int := ((List.range N.ks.length).map fun b : Nat => (b : Int)).filter fun b => decide (b ≠ a ∧ joinN N a b ≠ none)
theorem joinL_some {a b : Int} : ∀ {ls : List Ln}, joinL a b ls ≠ none ↔ ∃ w ∈ ls, (w.1 = a ∧ w.2.1 = b) ∨ (w.1 = b ∧ w.2.1 = a)
  | [] => ⟨fun z => absurd rfl z, fun ⟨w, hw, _⟩ => nomatch hw⟩
  | w :: r => by
    have ih := joinL_some (a := a) (b := b) (ls := r)
    unfold joinL
    by_cases q : (w.1 = a ∧ w.2.1 = b) ∨ (w.1 = b ∧ w.2.1 = a)
    · rw [if_pos q]
      exact ⟨fun _ => ⟨w, List.mem_cons_self, q⟩, fun _ z => nomatch z⟩
    · rw [if_neg q, ih]
      constructor
      · rintro ⟨v, hv, h⟩; exact ⟨v, List.mem_cons_of_mem _ hv, h⟩
      · rintro ⟨v, hv, h⟩
        rcases List.mem_cons.mp hv with rfl | hv
        · exact absurd h q
        · exact ⟨v, hv, h⟩
theorem joinN_comm (N : NetV) (a b : Int) : joinN N a b = joinN N b a := by
  unfold joinN
  generalize N.ls = ls
  induction ls with
  | nil => rfl
  | cons w r ih =>
    unfold joinL
    by_cases q : (w.1 = a ∧ w.2.1 = b) ∨ (w.1 = b ∧ w.2.1 = a)
    · rw [if_pos q, if_pos q.symm]
    · rw [if_neg q, if_neg (fun z => q z.symm)]; exact ih
/-- what is found at a, line by line -/
def foundL (a : Int) : List Ln → List Int
  | [] => []
  | w :: r => (if w.1 = a then [w.2.1] else []) ++ (if w.2.1 = a then [w.1] else []) ++ foundL a r
theorem mem_found {a b : Int} : ∀ {ls : List Ln}, b ∈ foundL a ls ↔ ∃ w ∈ ls, (w.1 = a ∧ w.2.1 = b) ∨ (w.1 = b ∧ w.2.1 = a)
  | [] => ⟨fun z => (nomatch z), fun ⟨w, hw, _⟩ => nomatch hw⟩
  | w :: r => by
    have ih := mem_found (a := a) (b := b) (ls := r)
    unfold foundL
    rw [List.mem_append, List.mem_append, ih]
    constructor
    · rintro ((h | h) | ⟨v, hv, h⟩)
      · split at h
        · rename_i q; exact ⟨w, List.mem_cons_self, .inl ⟨q, (List.mem_singleton.mp h).symm⟩⟩
        · cases h
      · split at h
        · rename_i q; exact ⟨w, List.mem_cons_self, .inr ⟨(List.mem_singleton.mp h).symm, q⟩⟩
        · cases h
      · exact ⟨v, List.mem_cons_of_mem _ hv, h⟩
    · rintro ⟨v, hv, h⟩
      rcases List.mem_cons.mp hv with rfl | hv
      · rcases h with ⟨h1, h2⟩ | ⟨h1, h2⟩
        · exact .inl (.inl (by rw [if_pos h1, h2]; exact List.mem_singleton.mpr rfl))
        · exact .inl (.inr (by rw [if_pos h2, h1]; exact List.mem_singleton.mpr rfl))
      · exact .inr ⟨v, hv, h⟩
theorem normL_eq {w v : Ln} {a b : Int} (h1 : (w.1 = a ∧ w.2.1 = b) ∨ (w.1 = b ∧ w.2.1 = a)) (h2 : (v.1 = a ∧ v.2.1 = b) ∨ (v.1 = b ∧ v.2.1 = a)) : normL w = normL v := by
  unfold normL
  rcases h1 with ⟨p1, p2⟩ | ⟨p1, p2⟩ <;> rcases h2 with ⟨q1, q2⟩ | ⟨q1, q2⟩ <;> rw [p1, p2, q1, q2]
  · split <;> split
    · omega
    · rfl
    · rfl
    · have : a = b := by omega
      rw [this]
  · split <;> split
    · omega
    · rfl
    · rfl
    · have : a = b := by omega
      rw [this]
theorem found_nodup {a : Int} : ∀ {ls : List Ln}, (ls.map normL).Nodup → (∀ w ∈ ls, w.1 ≠ w.2.1) → (foundL a ls).Nodup
  | [], _, _ => List.nodup_nil
  | w :: r, hn, hd => by
    obtain ⟨n1, n2⟩ := List.nodup_cons.mp hn
    have ih := found_nodup (a := a) n2 fun v hv => hd v (List.mem_cons_of_mem _ hv)
    have hw := hd w List.mem_cons_self
    have no : ∀ b, (w.1 = a ∧ w.2.1 = b) ∨ (w.1 = b ∧ w.2.1 = a) → b ∉ foundL a r := fun b hb z => by
      obtain ⟨v, hv, h⟩ := mem_found.mp z
      exact n1 (List.mem_map.mpr ⟨v, hv, (normL_eq hb h).symm⟩)
    unfold foundL
    by_cases q1 : w.1 = a
    · rw [if_pos q1, if_neg (fun z => hw (q1.trans z.symm)), List.append_nil]
      exact List.nodup_cons.mpr ⟨no _ (.inl ⟨q1, rfl⟩), ih⟩
    · rw [if_neg q1]
      by_cases q2 : w.2.1 = a
      · rw [if_pos q2]
        exact List.nodup_cons.mpr ⟨no _ (.inr ⟨rfl, q2⟩), ih⟩
      · rw [if_neg q2]; exact ih
theorem nbr_sorted (N : NetV) (a : Int) : (nbrN N a).Pairwise (· < ·) := by
  unfold nbrN
  refine List.Pairwise.filter _ (List.pairwise_map.mpr ?_)
  exact List.pairwise_lt_range.imp fun h => by omega
theorem mem_nbr {N : NetV} (hN : NetW N) {a b : Int} : b ∈ nbrN N a ↔ joinN N a b ≠ none := by
  unfold nbrN
  rw [List.mem_filter, decide_eq_true_eq, List.mem_map]
  constructor
  · rintro ⟨_, _, h⟩; exact h
  · intro h
    obtain ⟨w, hw, q⟩ := joinL_some.mp h
    obtain ⟨⟨p1, p2⟩, ⟨p3, p4⟩, p5⟩ := hN.ln w hw
    have hb : 0 ≤ b ∧ b < N.ks.length ∧ b ≠ a := by
      rcases q with ⟨q1, q2⟩ | ⟨q1, q2⟩
      · exact ⟨by omega, by omega, by omega⟩
      · exact ⟨by omega, by omega, by omega⟩
    exact ⟨⟨b.toNat, List.mem_range.mpr (by omega), by omega⟩, hb.2.2, h⟩
theorem found_sort {N : NetV} (hN : NetW N) {a : Int} {ms : List Int} (hp : ms.Perm (foundL a N.ls)) (hs : ms.Pairwise (· ≤ ·)) : ms = nbrN N a := by
  have hd : ∀ w ∈ N.ls, w.1 ≠ w.2.1 := fun w hw => (hN.ln w hw).2.2
  have hn := found_nodup (a := a) hN.nd hd
  have hs2 := nbr_sorted N a
  have hpp : ms.Perm (nbrN N a) := hp.trans ((List.perm_ext_iff_of_nodup hn (hs2.imp fun h e => by rw [e] at h; exact absurd h (Int.lt_irrefl _))).mpr fun b => by rw [mem_found, mem_nbr hN]; exact joinL_some.symm)
  exact hpp.eq_of_pairwise (le := (· ≤ ·)) (fun x y _ _ h1 h2 => Int.le_antisymm h1 h2) hs (hs2.imp fun h => Int.le_of_lt h)
theorem found_lt {N : NetV} (hN : NetW N) (a : Int) : (foundL a N.ls).length ≤ 60 := by
  have hd : ∀ w ∈ N.ls, w.1 ≠ w.2.1 := fun w hw => (hN.ln w hw).2.2
  have hn := found_nodup (a := a) hN.nd hd
  have hs2 := nbr_sorted N a
  have hp : (foundL a N.ls).Perm (nbrN N a) := (List.perm_ext_iff_of_nodup hn (hs2.imp fun h e => by rw [e] at h; exact absurd h (Int.lt_irrefl _))).mpr fun b => by rw [mem_found, mem_nbr hN]; exact joinL_some.symm
  rw [hp.length_eq]
  unfold nbrN
  have := List.length_filter_le (fun b : Int => decide (b ≠ a ∧ joinN N a b ≠ none)) ((List.range N.ks.length).map fun b : Nat => (b : Int))
  have h := hN.n60
  rw [List.length_map, List.length_range] at this
  omega
theorem found_len (a : Int) : ∀ ls : List Ln, (foundL a ls).length ≤ 2 * ls.length
  | [] => Nat.le_refl _
  | w :: r => by
    have ih := found_len a r
    unfold foundL
    rw [List.length_append, List.length_append, List.length_cons]
    have h1 : (if w.1 = a then [w.2.1] else []).length ≤ 1 := by split <;> simp
    have h2 : (if w.2.1 = a then [w.1] else []).length ≤ 1 := by split <;> simp
    omega
def c_Net_neighbours : Ct := fun ws Q => ∃ (N : NetV) (a : Int), ws = [.cl (netD N), .cl (.int a)] ∧ NetW N ∧ Q (.fr (.fl ((nbrN N a).map .int)))
theorem l_Net_neighbours : ∀ ws P, c_Net_neighbours ws P → ws.length = 2 := by rintro ws P ⟨N, a, rfl, _⟩; rfl
/-- Net.neighbours: slots 0=self 1=a 2=found 3=first 4=second 5=ticks -/
def a_Net_neighbours : AS :=
  aSeq (aSet 2 (aLst (aNil))) (aSeq (aFor (iLst (aFld 0 1 (aV 0))) (agT 3 (agCons (agN 3) (agCons (agN 4) (agCons (agN 5) (agNil))))) (aCut (aIf (aB (aBin (dEq) (aV 3) (aV 1))) (aMut "list" 2 mAppend (aCons (aV 4) (aNil))) (aNext)) (aIf (aB (aBin (dEq) (aV 4) (aV 1))) (aMut "list" 2 mAppend (aCons (aV 3) (aNil))) (aNext)))) (aRet (aCB fSorted (aCons (aV 2) (aNil)))))
theorem w_Net_neighbours : ∀ ws P, c_Net_neighbours ws P → a_Net_neighbours { nx := fun _ => P (.cl .non), rt := fun w _ => P w } (startA 6 ws) := by
  rintro ws P ⟨N, a, rfl, hN, h⟩
  show a_Net_neighbours _ [.im (.ins 0 [.lst (N.ks.map kD), .lst (N.ls.map lnD), .int N.pr, .int N.er]), .im (.int a), .non, .non, .non, .non]
  have hl := hN.l60
  unfold a_Net_neighbours
  walk_at "vs"
  refine ⟨by decide, ?_⟩
  refine for_map lnD N.ls (fun r δ => ∃ (L : List Int) (x y z : AV), δ = [.im (.ins 0 [.lst (N.ks.map kD), .lst (N.ls.map lnD), .int N.pr, .int N.er]), .im (.int a), .ow false (.fl (L.map .int)), x, y, z] ∧ foundL a N.ls = L ++ foundL a r ∧ L.length + 2 * r.length ≤ 2 * N.ls.length) ⟨[], _, _, _, rfl, rfl, by rw [List.length_nil]; omega⟩ ?_ ?_
  · rintro ⟨p, q, t⟩ r δ _ ⟨L, x, y, z, rfl, hL, hLl⟩
    rw [List.length_cons] at hLl
    rw [show lnD (p, q, t) = .tup [.int p, .int q, .int t] from rfl]
    have hL : foundL a N.ls = L ++ ((if p = a then [q] else []) ++ (if q = a then [p] else []) ++ foundL a r) := hL
    walk_at "vs"
    refine cut_by (fun δ => ∃ (L2 : List Int), δ = [.im (.ins 0 [.lst (N.ks.map kD), .lst (N.ls.map lnD), .int N.pr, .int N.er]), .im (.int a), .ow false (.fl (L2.map .int)), .im (.int p), .im (.int q), .im (.int t)] ∧ L2 = L ++ (if p = a then [q] else [])) ?_ ?_
    · walk_at "vs"
      by_cases e : p = a
      · refine ite_yes e ⟨by omega, L ++ [q], by rw [List.map_append], by rw [if_pos e]⟩
      · refine ite_no e ⟨L, rfl, by rw [if_neg e, List.append_nil]⟩
    · rintro δ ⟨L2, rfl, hL2⟩
      have hl2 : L2.length ≤ L.length + 1 := by
        rw [hL2, List.length_append]
        split <;> simp
      walk_at "vs"
      by_cases e : q = a
      · refine ite_yes e ⟨by omega, L2 ++ [p], _, _, _, by rw [List.map_append], by rw [hL, hL2, if_pos e]; simp, by rw [List.length_append, List.length_singleton]; omega⟩
      · refine ite_no e ⟨L2, _, _, _, rfl, by rw [hL, hL2, if_neg e]; simp, by omega⟩
  · rintro δ ⟨L, x, y, z, rfl, hL, hLl⟩
    have hL : foundL a N.ls = L := by rw [hL]; exact List.append_nil _
    walk_at "vs"
    refine ⟨L, rfl, by have := found_lt hN a; rw [hL] at this; omega, fun ms hp hs => ?_⟩
    rw [← hL] at hp
    rw [found_sort hN hp hs]
    exact h
end Vl
set_option maxHeartbeats 2000000
local macro_rules | `(tactic| walk_at "vs") => `(tactic| simp only [Vl.aSeq, Vl.aFor_eq, Vl.aIf, Vl.aB, Vl.aBin, Vl.aUn, Vl.aV, Vl.slotW, Vl.gt_z, Vl.gt_s, Vl.aCB, Vl.aCall, Vl.aCons, Vl.aNil, Vl.argW, Vl.dLt_eq, Vl.dLe_eq, Vl.dGt_eq, Vl.dGe_eq, Vl.dI0, Vl.dI, Vl.dAdd, Vl.dSub_eq, Vl.dMul, Vl.dDiv_eq, Vl.dMod_eq, Vl.dPow_eq, Vl.dShl_eq, Vl.dNeg, Vl.dNot, Vl.dIsN, Vl.dNotN, Vl.dEq, Vl.dNe, Vl.dIn, Vl.dIx, Vl.fLen_lst, Vl.fLen_tup, Vl.fLen_ow, Vl.fLen_bw, Vl.fLen_scr, Vl.fLen_str, Vl.fInt_int, Vl.fInt_bl, Vl.fAbs_int, Vl.fMax_int, Vl.fMin_int, Vl.fGcd_int, Vl.fLcm_int, Vl.fList_lst, Vl.fList_tup, Vl.fList_ow, Vl.fList_bw, Vl.fList_scr, Vl.seqC, Vl.lstC, Vl.itemsC, Vl.clW, Vl.W.toD, Vl.M.toD, Vl.clDs, Option.map_some, Option.map_none,
  Vl.aRet, Vl.aRetV, Vl.aRetN, Vl.aNext, Vl.aBreak, Vl.aCont, Vl.aC, Vl.aSet, Vl.aSetC, Vl.slotA, Vl.aDrop, Vl.aAsgG, Vl.agN, Vl.agT, Vl.agCons, Vl.agNil, Vl.iLst, Vl.iTup, Vl.iR1, Vl.iR2, Vl.aTup, Vl.aLst, Vl.aAnd, Vl.aOr, Vl.aNot, Vl.aAndV, Vl.aOrV, Vl.aIfE, Vl.aSl, Vl.aoS, Vl.aoN, Vl.aChain, Vl.aAugAdd, Vl.aAugSub, Vl.aMut, Vl.aMutS, Vl.mAppend, Vl.mPop, Vl.mPopAt, Vl.mReverse, Vl.tyM, Vl.aFrz, Vl.frz, Vl.aSetIx, Vl.aLc, Vl.wipeA, Vl.aYes,
  List.set_cons_zero, List.set_cons_succ, List.length_map, List.length_cons, List.length_nil, decide_eq_true_eq, Bool.not_true, Bool.not_false, if_true, if_false, Bool.false_eq_true, Vl.okD_int, Vl.okD_bl, Vl.okD_non, Vl.eqD_int, Vl.eqD_bl, Vl.eqD_non, true_and, and_true, Vl.snoc_int, Vl.aIsi, Vl.isi_bl_bool, Vl.isi_bl_int, Vl.isi_int_int, Vl.isi_int_bool, Vl.isi_non_int, Vl.isi_non_bool, Vl.isi_lst_list, Vl.isi_tup_list, Vl.isi_tup_tuple, Vl.isi_non_tuple, Vl.isi_non_list, Vl.isi_str_str, Vl.isi_lst_bool, Vl.isi_str_bool, Vl.isi_tup_bool, Vl.ixD_0, Vl.ixD_1, Vl.ixD_2, Vl.ixD_3, Vl.ixD_4, Vl.ixD_5, Vl.ixD_6, Vl.ixD_7, Vl.ixD_8, Vl.ixD_9, Vl.ixD_10, Vl.ixD_11, Vl.aFld, Vl.aMeth, Vl.aMake, Vl.aMakeK, Vl.mInsert, Vl.aIndex, Vl.fMax1_eq, Vl.fSorted_eq, List.getElem?_cons_zero, List.getElem?_cons_succ, List.cons_append, List.nil_append, Vl.aPar, Vl.aIsO, Vl.dNeS, Vl.aDNew, Vl.dEqO, Vl.aDGet, Vl.aDIx, Vl.dInD, Vl.kidsW, Vl.keyO, Vl.keyF, Vl.keysF, Vl.getK_map, Vl.M.toDs, Vl.refM, Vl.bwM, Vl.owM, Vl.aMakeO, Vl.aSetX, Vl.aSetCX, Vl.aDropX, Vl.aRetX, Vl.aAsgGX, Vl.aIfX, Vl.xP, Vl.tP, Vl.aBX, Vl.aAndX, Vl.aOrX, Vl.aNotX, Vl.aBinX, Vl.aCallL, Vl.aMethL, Vl.alHere, Vl.alCons, Vl.setP, Vl.apV, Vl.apFld, Vl.apIx, Vl.apKey, Vl.aMutP, Vl.aFSet, Vl.aDPutP, Vl.kidW, Vl.putM, Vl.dctM, Vl.aLstO, Vl.aoCons, Vl.aoNil, Vl.aDisp, Vl.dispGo, Vl.iLstG, Vl.xMut, Vl.fLenD, Vl.one, Vl.mRemove, Vl.apW, Vl.allW_nil, Vl.allW_cons, Vl.anHere, Vl.anCons, Vl.aCallN, Vl.aCallF, Vl.clAlls, Vl.clAll, Vl.flatW, Vl.flatD, Vl.flatDs, Bool.and_true, Bool.true_and, Vl.aDNewM, Vl.fSortT_eq, Vl.fSortDT_eq, Vl.fMinD_eq, Vl.fMaxD_eq, Vl.aForX_eq, Vl.aCallK, Vl.aCallD, Vl.xSortPop, Vl.dEqS, Vl.aSlT, Vl.aClE, Vl.aLenSet, Vl.aMakeD])
namespace Vl
open PySem PySem.Spec PyProof.Rows L2
/-! ### rows through switches -/
/-- what a search leaves out -/
structure CutV where
  wo : List Int
  cut : Option (Int × Int)
def mnI (a b : Int) : Int := if b < a then b else a
def mxI (a b : Int) : Int := if b > a then b else a
theorem mnI_comm (a b : Int) : mnI a b = mnI b a := by unfold mnI; split <;> split <;> omega
theorem mxI_comm (a b : Int) : mxI a b = mxI b a := by unfold mxI; split <;> split <;> omega
def LinkC (N : NetV) (c : CutV) (a b : Int) : Prop := joinN N a b ≠ none ∧ c.cut ≠ some (mnI a b, mxI a b)
theorem LinkC.comm {N : NetV} {c : CutV} {a b : Int} (h : LinkC N c a b) : LinkC N c b a := ⟨by rw [joinN_comm]; exact h.1, by rw [mnI_comm, mxI_comm]; exact h.2⟩
theorem join_in {N : NetV} (hN : NetW N) {a b : Int} (h : joinN N a b ≠ none) : (0 ≤ a ∧ a < N.ks.length) ∧ (0 ≤ b ∧ b < N.ks.length) := by
  obtain ⟨w, hw, q⟩ := joinL_some.mp h
  obtain ⟨⟨p1, p2⟩, ⟨p3, p4⟩, p5⟩ := hN.ln w hw
  rcases q with ⟨q1, q2⟩ | ⟨q1, q2⟩ <;> omega
section
variable (N : NetV) (c : CutV) (l : Int)
/-- a node at which a way may pass -/
def Pas (y : Int) : Prop := y = l ∨ hostN N y = false
instance (y : Int) : Decidable (Pas N l y) := by unfold Pas; infer_instance
/-- a row to l, each node behind the first a switch or l -/
def WayL : List Int → Prop
  | [] => False
  | [v] => v = l
  | v :: y :: r => v ∉ c.wo ∧ LinkC N c v y ∧ Pas N l y ∧ WayL (y :: r)
def WayN (k : Nat) (v : Int) : Prop := ∃ r, r.length = k ∧ WayL N c l (v :: r)
def MinW (k : Nat) (v : Int) : Prop := WayN N c l k v ∧ ∀ j, j < k → ¬ WayN N c l j v
end
section
variable {N : NetV} {c : CutV} {l : Int}
theorem wayN_zero {v : Int} : WayN N c l 0 v ↔ v = l := by
  constructor
  · rintro ⟨r, hr, h⟩
    rw [List.length_eq_zero_iff.mp hr] at h
    exact h
  · intro h
    exact ⟨[], rfl, h⟩
theorem wayN_succ {k : Nat} {v : Int} : WayN N c l (k + 1) v ↔ v ∉ c.wo ∧ ∃ y, LinkC N c v y ∧ Pas N l y ∧ WayN N c l k y := by
  constructor
  · rintro ⟨r, hr, h⟩
    cases r with
    | nil => cases hr
    | cons y r =>
      obtain ⟨h1, h2, h3, h4⟩ := h
      exact ⟨h1, y, h2, h3, r, by simpa using hr, h4⟩
  · rintro ⟨h1, y, h2, h3, r, hr, h4⟩
    exact ⟨y :: r, by simp [hr], h1, h2, h3, h4⟩
theorem MinW.eq {k j : Nat} {v : Int} (h : MinW N c l k v) (g : MinW N c l j v) : k = j := by
  rcases Nat.lt_trichotomy k j with q | q | q
  · exact absurd h.1 (g.2 k q)
  · exact q
  · exact absurd g.1 (h.2 j q)
theorem WayN.min : ∀ {k : Nat} {v : Int}, WayN N c l k v → ∃ j, j ≤ k ∧ MinW N c l j v := by
  intro k
  induction k using Nat.strongRecOn with
  | ind k ih =>
    intro v h
    by_cases q : ∃ j, j < k ∧ WayN N c l j v
    · obtain ⟨j, hj, hw⟩ := q
      obtain ⟨i, hi, hm⟩ := ih j hj hw
      exact ⟨i, by omega, hm⟩
    · exact ⟨k, Nat.le_refl _, h, fun j hj hw => q ⟨j, hj, hw⟩⟩
theorem MinW.next {k : Nat} {v y : Int} (h : MinW N c l (k + 1) v) (h1 : LinkC N c v y) (h2 : Pas N l y) (h3 : WayN N c l k y) : MinW N c l k y := ⟨h3, fun j hj hw => h.2 (j + 1) (by omega) (wayN_succ.mpr ⟨(wayN_succ.mp h.1).1, y, h1, h2, hw⟩)⟩
theorem wayL_mem : ∀ {r : List Int} {v z : Int}, WayL N c l (v :: r) → z ∈ r → ∃ j, j < r.length ∧ WayN N c l j z
  | [], _, _, _, hz => nomatch hz
  | y :: r, v, z, ⟨_, _, _, h⟩, hz => by
    rcases List.mem_cons.mp hz with rfl | hz
    · exact ⟨r.length, by simp, r, rfl, h⟩
    · obtain ⟨j, hj, hw⟩ := wayL_mem h hz
      exact ⟨j, by simp; omega, hw⟩
theorem minW_nodup : ∀ {r : List Int} {v : Int}, WayL N c l (v :: r) → MinW N c l r.length v → (v :: r).Nodup
  | [], v, _, _ => by simp
  | y :: r, v, h, hm => by
    have h4 := h.2.2.2
    have hy : MinW N c l r.length y := hm.next h.2.1 h.2.2.1 ⟨r, rfl, h4⟩
    refine List.nodup_cons.mpr ⟨fun z => ?_, minW_nodup h4 hy⟩
    obtain ⟨j, hj, hw⟩ := wayL_mem h z
    exact hm.2 j hj hw
theorem wayL_iff : ∀ {p : List Int}, WayL N c l p ↔ 1 ≤ p.length ∧ p.getD (p.length - 1) 0 = l ∧ ∀ k, k + 1 < p.length → p.getD k 0 ∉ c.wo ∧ LinkC N c (p.getD k 0) (p.getD (k + 1) 0) ∧ Pas N l (p.getD (k + 1) 0)
  | [] => ⟨fun h => h.elim, fun h => by have := h.1; simp at this⟩
  | [v] => ⟨fun h => ⟨Nat.le_refl _, h, fun k hk => by simp at hk⟩, fun h => h.2.1⟩
  | v :: y :: r => by
    have ih := wayL_iff (p := y :: r)
    constructor
    · rintro ⟨h1, h2, h3, h4⟩
      obtain ⟨i1, i2, i3⟩ := ih.mp h4
      refine ⟨by simp, ?_, fun k hk => ?_⟩
      · have : (v :: y :: r).length - 1 = ((y :: r).length - 1) + 1 := by simp
        rw [this]
        exact i2
      · cases k with
        | zero => exact ⟨h1, h2, h3⟩
        | succ k => exact i3 k (by simpa using hk)
    · rintro ⟨_, i2, i3⟩
      obtain ⟨h1, h2, h3⟩ := i3 0 (by simp)
      refine ⟨h1, h2, h3, ih.mpr ⟨by simp, ?_, fun k hk => i3 (k + 1) (by simpa using hk)⟩⟩
      have : (v :: y :: r).length - 1 = ((y :: r).length - 1) + 1 := by simp
      rw [this] at i2
      exact i2
end
/-! ### the least row -/
def candB (N : NetV) (c : CutV) (l : Int) (st : List (Option Nat)) (k : Nat) (v y : Int) : Bool := decide (st.getD y.toNat none = some k ∧ Pas N l y ∧ c.cut ≠ some (mnI v y, mxI v y))
def bestL (N : NetV) (c : CutV) (l : Int) (st : List (Option Nat)) : Nat → Int → List Int
  | 0, _ => []
  | k + 1, v => match (nbrN N v).find? (candB N c l st k v) with
    | some y => y :: bestL N c l st k y
    | none => []
def DistOk (N : NetV) (c : CutV) (l : Int) (st : List (Option Nat)) : Prop := st.length = N.ks.length ∧ ∀ v : Int, 0 ≤ v → v < N.ks.length → ∀ k, st.getD v.toNat none = some k ↔ MinW N c l k v
section
variable {N : NetV} {c : CutV} {l : Int} {st : List (Option Nat)}
theorem best_next (hN : NetW N) (hD : DistOk N c l st) {k : Nat} {v : Int} (h : MinW N c l (k + 1) v) : ∃ y, (nbrN N v).find? (candB N c l st k v) = some y ∧ LinkC N c v y ∧ Pas N l y ∧ MinW N c l k y ∧ ∀ z, LinkC N c v z → Pas N l z → MinW N c l k z → y ≤ z := by
  obtain ⟨h1, z, z1, z2, z3⟩ := wayN_succ.mp h.1
  have cz : ∀ z, LinkC N c v z → Pas N l z → MinW N c l k z → z ∈ nbrN N v ∧ candB N c l st k v z = true := fun z z1 z2 hz => by
    have hr := (join_in hN z1.1).2
    exact ⟨(mem_nbr hN).mpr z1.1, decide_eq_true ⟨(hD.2 z hr.1 hr.2 k).mpr hz, z2, z1.2⟩⟩
  obtain ⟨m1, m2⟩ := cz z z1 z2 (h.next z1 z2 z3)
  cases hf : (nbrN N v).find? (candB N c l st k v) with
  | none => exact absurd m2 (by simpa using List.find?_eq_none.mp hf z m1)
  | some y =>
    have hy := List.find?_some hf
    have hm := List.mem_of_find?_eq_some hf
    have hj := (mem_nbr hN).mp hm
    have hr := (join_in hN hj).2
    obtain ⟨c1, c2, c3⟩ := of_decide_eq_true hy
    refine ⟨y, rfl, ⟨hj, c3⟩, c2, (hD.2 y hr.1 hr.2 k).mp c1, fun x x1 x2 x3 => ?_⟩
    obtain ⟨n1, n2⟩ := cz x x1 x2 x3
    apply Classical.byContradiction
    intro q
    obtain ⟨_, as, bs, e, hb⟩ := List.find?_eq_some_iff_append.mp hf
    have hs := nbr_sorted N v
    rw [e] at hs n1
    rcases List.mem_append.mp n1 with n1 | n1
    · exact absurd n2 (by simpa using hb x n1)
    · rcases List.mem_cons.mp n1 with n1 | n1
      · omega
      · have := (List.pairwise_cons.mp (List.pairwise_append.mp hs).2.1).1 x n1
        omega
theorem best_ok (hN : NetW N) (hD : DistOk N c l st) : ∀ {k : Nat} {v : Int}, MinW N c l k v → WayL N c l (v :: bestL N c l st k v) ∧ (bestL N c l st k v).length = k ∧ ∀ r : List Int, r.length = k → WayL N c l (v :: r) → ¬ r < bestL N c l st k v
  | 0, v, h => ⟨wayN_zero.mp h.1, rfl, fun r hr _ => by rw [List.length_eq_zero_iff.mp hr]; exact List.lt_irrefl _⟩
  | k + 1, v, h => by
    obtain ⟨y, hf, h1, h2, h3, h4⟩ := best_next hN hD h
    obtain ⟨i1, i2, i3⟩ := best_ok hN hD h3
    have e : bestL N c l st (k + 1) v = y :: bestL N c l st k y := by
      show (match (nbrN N v).find? (candB N c l st k v) with
        | some y => y :: bestL N c l st k y
        | none => []) = _
      rw [hf]
    rw [e]
    refine ⟨⟨(wayN_succ.mp h.1).1, h1, h2, i1⟩, by simp [i2], fun r hr hw => ?_⟩
    cases r with
    | nil => cases hr
    | cons z r =>
      obtain ⟨w1, w2, w3, w4⟩ := hw
      have hz := h.next w2 w3 ⟨r, by simpa using hr, w4⟩
      have := h4 z w2 w3 hz
      rw [List.cons_lt_cons_iff]
      rintro (q | ⟨q, q2⟩)
      · omega
      · exact i3 r (by simpa using hr) (q ▸ w4) q2
end
/-! ### paths -/
/-- a row of nodes is a path -/
def PathP (N : NetV) (r : List Int) : Prop := 2 ≤ r.length ∧ r.Nodup ∧ (∀ k, k < r.length → (hostN N (r.getD k 0) = true ↔ k = 0 ∨ k + 1 = r.length)) ∧ ∀ k, k + 1 < r.length → joinN N (r.getD k 0) (r.getD (k + 1) 0) ≠ none
theorem FoundT.path {N : NetV} {m : Nat} (hm : m ≤ 4) {r : List Int} (h : FoundT N m r) : PathP N r := by
  have ok := FoundT.ok hm h
  obtain ⟨w1, w2⟩ := h.way
  have f := h.first
  have l2 := ok.l2
  refine ⟨l2, ok.nd, fun k hk => ?_, fun k hk => ok.jn k _ _ (getD_at (by omega)) (getD_at hk)⟩
  by_cases q : 1 ≤ k ∧ k + 1 < r.length
  · rw [w1 k q.1 q.2]
    exact ⟨fun z => (nomatch z), fun z => by omega⟩
  · refine ⟨fun _ => by omega, fun z => ?_⟩
    rcases z with z | z
    · rw [z]; exact f
    · rw [show k = r.length - 1 by omega]; exact w2
theorem getD_app {r : List Int} {b : Int} {k : Nat} (h : k < r.length) : (r ++ [b]).getD k 0 = r.getD k 0 := by
  rw [List.getD_eq_getElem?_getD, List.getElem?_append_left h, ← List.getD_eq_getElem?_getD]
theorem getD_snoc {r : List Int} {b : Int} : (r ++ [b]).getD r.length 0 = b := by
  rw [List.getD_eq_getElem?_getD, List.getElem?_append_right (Nat.le_refl _), Nat.sub_self]
  rfl
theorem snoc_of {α : Type} {r : List α} (h : 1 ≤ r.length) : ∃ r' b, r = r' ++ [b] :=
  ⟨r.dropLast, r.getLast (by intro z; rw [z] at h; simp at h), (List.dropLast_concat_getLast _).symm⟩
theorem ext_of {N : NetV} (hN : NetW N) {r : List Int} {b : Int} (h1 : 1 ≤ r.length) (hn : (r ++ [b]).Nodup) (hj : joinN N (r.getD (r.length - 1) 0) b ≠ none) : ExtN N r b := by
  refine ⟨(join_in hN hj).2, fun z => ?_, r.getD (r.length - 1) 0, ?_, hj⟩
  · exact (List.nodup_append.mp hn).2.2 b z b (List.mem_singleton.mpr rfl) rfl
  · rw [List.getLast?_eq_getElem?, getD_at (by omega)]
theorem RowT.mk {N : NetV} (hN : NetW N) : ∀ {t : Nat} {r : List Int}, r.length = t + 1 → r.Nodup → (∀ x ∈ r, 0 ≤ x ∧ x < N.ks.length) → hostN N (r.getD 0 0) = true → (∀ k, 1 ≤ k → k < r.length → hostN N (r.getD k 0) = false) →
    (∀ k, k + 1 < r.length → joinN N (r.getD k 0) (r.getD (k + 1) 0) ≠ none) → RowT N t r
  | 0, r, hl, _, hi, hh, _, _ => by
    cases r with
    | nil => simp at hl
    | cons a r =>
      have : r = [] := List.length_eq_zero_iff.mp (by simpa using hl)
      subst this
      exact ⟨a, hi a List.mem_cons_self, hh, rfl⟩
  | t + 1, r, hl, hn, hi, hh, hw, hj => by
    obtain ⟨r', b, rfl⟩ := snoc_of (r := r) (by omega)
    rw [List.length_append, List.length_singleton] at hl
    refine ⟨r', b, RowT.mk hN (by omega) (List.nodup_append.mp hn).1 (fun x hx => hi x (List.mem_append_left _ hx)) ?_ (fun k h1 h2 => ?_) (fun k h2 => ?_), rfl, ext_of hN (by omega) hn ?_, ?_⟩
    · rw [getD_app (by omega)] at hh; exact hh
    · have := hw k h1 (by rw [List.length_append, List.length_singleton]; omega)
      rw [getD_app h2] at this; exact this
    · have := hj k (by rw [List.length_append, List.length_singleton]; omega)
      rw [getD_app (by omega), getD_app h2] at this; exact this
    · have := hj (r'.length - 1) (by rw [List.length_append, List.length_singleton]; omega)
      rw [getD_app (by omega), show r'.length - 1 + 1 = r'.length by omega, getD_snoc] at this; exact this
    · have := hw r'.length (by omega) (by rw [List.length_append, List.length_singleton]; omega)
      rw [getD_snoc] at this; exact this
theorem PathP.found {N : NetV} (hN : NetW N) {m : Nat} {r : List Int} (h : PathP N r) (hi : ∀ x ∈ r, 0 ≤ x ∧ x < N.ks.length) (hm : r.length ≤ m + 1) : FoundT N m r := by
  obtain ⟨h2, hn, hh, hj⟩ := h
  obtain ⟨r', b, rfl⟩ := snoc_of (r := r) (by omega)
  rw [List.length_append, List.length_singleton] at h2 hm
  refine ⟨r'.length - 1, r', b, by omega, RowT.mk hN (by omega) (List.nodup_append.mp hn).1 (fun x hx => hi x (List.mem_append_left _ hx)) ?_ (fun k h1 h2 => ?_) (fun k h2 => ?_), rfl, ext_of hN (by omega) hn ?_, ?_⟩
  · rw [← getD_app (b := b) (by omega)]
    exact (hh 0 (by rw [List.length_append]; omega)).mpr (.inl rfl)
  · rw [← getD_app (b := b) h2]
    have := hh k (by rw [List.length_append]; omega)
    cases q : hostN N ((r' ++ [b]).getD k 0) with
    | false => rfl
    | true =>
      have := this.mp q
      rw [List.length_append, List.length_singleton] at this
      omega
  · have := hj k (by rw [List.length_append, List.length_singleton]; omega)
    rw [getD_app (by omega), getD_app h2] at this; exact this
  · have := hj (r'.length - 1) (by rw [List.length_append, List.length_singleton]; omega)
    rw [getD_app (by omega), show r'.length - 1 + 1 = r'.length by omega, getD_snoc] at this; exact this
  · have := (hh r'.length (by rw [List.length_append, List.length_singleton]; omega)).mpr (.inr (by rw [List.length_append, List.length_singleton]))
    rw [getD_snoc] at this; exact this
/-- different numbers of false places -/
theorem count_le : ∀ (n : Nat) {ks : List Bool} {l : List Nat}, ks.length = n → l.Nodup → (∀ x ∈ l, x < ks.length ∧ ks.getD x false = false) → l.length ≤ (ks.filter (!·)).length := by
  intro n
  induction n with
  | zero =>
    intro ks l hk _ h
    cases l with
    | nil => exact Nat.zero_le _
    | cons x l => have := (h x List.mem_cons_self).1; omega
  | succ n ih =>
    intro ks l hk hn h
    obtain ⟨ks, b, rfl⟩ := snoc_of (r := ks) (by omega)
    rw [List.length_append, List.length_singleton] at hk
    have e : ∀ x, x < ks.length → (ks ++ [b]).getD x false = ks.getD x false := fun x hx => by rw [List.getD_eq_getElem?_getD, List.getElem?_append_left hx, ← List.getD_eq_getElem?_getD]
    have i := ih (l := l.erase ks.length) (show ks.length = n by omega) (hn.erase _) fun x hx => by
      have h1 := h x (List.mem_of_mem_erase hx)
      have h2 : x ≠ ks.length := (hn.mem_erase_iff.mp hx).1
      rw [List.length_append, List.length_singleton] at h1
      have h3 : x < ks.length := by omega
      exact ⟨h3, by rw [← e x h3]; exact h1.2⟩
    rw [List.filter_append, List.length_append]
    by_cases q : ks.length ∈ l
    · have hb := (h _ q).2
      rw [List.getD_eq_getElem?_getD, List.getElem?_append_right (Nat.le_refl _), Nat.sub_self] at hb
      have hb : b = false := hb
      rw [List.length_erase_of_mem q] at i
      rw [hb, show ([false].filter (!·)).length = 1 from rfl]
      omega
    · rw [List.erase_of_not_mem q] at i
      omega
theorem sw_le {N : NetV} {l : List Int} (hn : l.Nodup) (h : ∀ x ∈ l, (0 ≤ x ∧ x < N.ks.length) ∧ hostN N x = false) : l.length ≤ (N.ks.filter (!·)).length := by
  have := count_le _ (ks := N.ks) (l := l.map Int.toNat) rfl (List.pairwise_map.mpr (List.Pairwise.imp_of_mem (fun {x y} hx hy e z => by
      have := h x hx
      have := h y hy
      exact e (by omega)) hn)) fun x hx => by
    obtain ⟨y, hy, rfl⟩ := List.mem_map.mp hx
    have := h y hy
    exact ⟨by omega, this.2⟩
  rwa [List.length_map] at this
/-! ### levels -/
def oD : Option Nat → D
  | none => .non
  | some k => .int k
def cutD2 : Option (Int × Int) → D
  | none => .non
  | some q => .tup [.int q.1, .int q.2]
def cN (st : List (Option Nat)) : Nat := st.countP (·.isNone)
theorem cN_set : ∀ {st : List (Option Nat)} {i k : Nat}, i < st.length → st.getD i none = none → cN (st.set i (some k)) + 1 = cN st
  | [], i, _, h, _ => by simp at h
  | o :: st, 0, k, _, h => by
    have h : o = none := h
    rw [h]
    simp [cN]
  | o :: st, i + 1, k, h, e => by
    have := cN_set (st := st) (i := i) (k := k) (by simpa using h) e
    unfold cN at this ⊢
    rw [List.set_cons_succ, List.countP_cons, List.countP_cons]
    omega
theorem getD_setN {st : List (Option Nat)} {i j k : Nat} (h : i < st.length) : (st.set i (some k)).getD j none = if i = j then some k else st.getD j none := by
  rw [List.getD_eq_getElem?_getD, List.getElem?_set]
  split
  · first | rfl | (rw [if_pos h]; rfl)
  · rw [List.getD_eq_getElem?_getD]
structure LevT (N : NetV) (c : CutV) (l : Int) (d : Nat) (st : List (Option Nat)) (B : List Int) : Prop where
  len : st.length = N.ks.length
  wb : ∀ v : Int, 0 ≤ v → v < N.ks.length → ∀ k, st.getD v.toNat none = some k → k ≤ d ∧ MinW N c l k v
  nn : ∀ v : Int, 0 ≤ v → v < N.ks.length → st.getD v.toNat none = none → ∀ j, j ≤ d → ¬ WayN N c l j v
  bd : ∀ y : Int, y ∈ B ↔ (0 ≤ y ∧ y < N.ks.length) ∧ Pas N l y ∧ st.getD y.toNat none = some d
structure InT (N : NetV) (c : CutV) (d : Nat) (st : List (Option Nat)) (B : List Int) (r : List Int) (x : Int) (nr : List Int) (st2 : List (Option Nat)) (F : List Int) : Prop where
  len : st2.length = N.ks.length
  old : ∀ v : Int, 0 ≤ v → v < N.ks.length → ∀ k, st.getD v.toNat none = some k → st2.getD v.toNat none = some k
  new : ∀ v : Int, 0 ≤ v → v < N.ks.length → ∀ k, st.getD v.toNat none = none → st2.getD v.toNat none = some k → k = d + 1 ∧ v ∉ c.wo ∧ ∃ a ∈ B, LinkC N c a v
  dn : ∀ a ∈ B, a ∈ r ∨ ∀ b, LinkC N c a b → b ∉ c.wo → (a = x ∧ b ∈ nr) ∨ st2.getD b.toNat none ≠ none
  fb : ∀ y : Int, y ∈ F ↔ (0 ≤ y ∧ y < N.ks.length) ∧ st.getD y.toNat none = none ∧ st2.getD y.toNat none ≠ none ∧ hostN N y = false
  cnt : F.length + cN st2 ≤ cN st
section
variable {N : NetV} {c : CutV} {l : Int} {d : Nat} {st st2 : List (Option Nat)} {B r nr F : List Int} {x y : Int}
theorem LevT.start (hl : 0 ≤ l ∧ l < N.ks.length) : LevT N c l 0 ((List.replicate N.ks.length none).set l.toNat (some 0)) [l] := by
  have hll : l.toNat < (List.replicate N.ks.length (none : Option Nat)).length := by rw [List.length_replicate]; omega
  have e : ∀ v : Int, 0 ≤ v → ((List.replicate N.ks.length none).set l.toNat (some 0)).getD v.toNat none = if v = l then some 0 else none := fun v hv => by
    rw [getD_setN hll]
    by_cases q : v = l
    · rw [if_pos (by rw [q]), if_pos q]
    · rw [if_neg (by omega), if_neg q, List.getD_eq_getElem?_getD, List.getElem?_replicate]
      split <;> rfl
  refine ⟨by rw [List.length_set, List.length_replicate], fun v h0 h1 k h => ?_, fun v h0 h1 h j hj => ?_, fun y => ?_⟩
  · rw [e v h0] at h
    split at h
    · cases h
      exact ⟨Nat.le_refl _, wayN_zero.mpr (by assumption), fun j hj => by omega⟩
    · cases h
  · rw [e v h0] at h
    split at h
    · cases h
    · rw [show j = 0 by omega, wayN_zero]
      assumption
  · rw [List.mem_singleton]
    constructor
    · rintro rfl
      exact ⟨hl, .inl rfl, by rw [e y hl.1, if_pos rfl]⟩
    · rintro ⟨h1, _, h3⟩
      rw [e y h1.1] at h3
      split at h3
      · assumption
      · cases h3
theorem LevT.inn (h : LevT N c l d st B) : InT N c d st B B 0 [] st [] := by
  refine ⟨h.len, fun v _ _ k q => q, fun v _ _ k q1 q2 => (by rw [q1] at q2; cases q2), fun a ha => .inl ha, fun y => ⟨fun z => (nomatch z), fun z => absurd z.2.1 z.2.2.1⟩, by simp⟩
theorem InT.row (hN : NetW N) (h : InT N c d st B (x :: r) 0 [] st2 F) : InT N c d st B r x (nbrN N x) st2 F := by
  refine ⟨h.len, h.old, h.new, fun a ha => ?_, h.fb, h.cnt⟩
  rcases h.dn a ha with q | q
  · rcases List.mem_cons.mp q with q | q
    · subst q
      exact .inr fun b hb _ => .inl ⟨rfl, (mem_nbr hN).mpr hb.1⟩
    · exact .inl q
  · exact .inr fun b hb hw => (q b hb hw).elim (fun z => nomatch z.2) .inr
theorem InT.out (h : InT N c d st B r x [] st2 F) : InT N c d st B r 0 [] st2 F := by
  refine ⟨h.len, h.old, h.new, fun a ha => ?_, h.fb, h.cnt⟩
  exact (h.dn a ha).imp_right fun q b hb hw => (q b hb hw).elim (fun z => nomatch z.2) .inr
theorem InT.skip (h : InT N c d st B r x (y :: nr) st2 F) (hs : st2.getD y.toNat none ≠ none ∨ y ∈ c.wo ∨ c.cut = some (mnI x y, mxI x y)) : InT N c d st B r x nr st2 F := by
  refine ⟨h.len, h.old, h.new, fun a ha => ?_, h.fb, h.cnt⟩
  refine (h.dn a ha).imp_right fun q b hb hw => ?_
  rcases q b hb hw with ⟨q1, q2⟩ | q
  · rcases List.mem_cons.mp q2 with q2 | q2
    · subst q1 q2
      rcases hs with z | z | z
      · exact .inr z
      · exact absurd z hw
      · exact absurd z hb.2
    · exact .inl ⟨q1, q2⟩
  · exact .inr q
theorem InT.add (h : InT N c d st B r x (y :: nr) st2 F) (hx : x ∈ B) (hy : 0 ≤ y ∧ y < N.ks.length) (h1 : st2.getD y.toNat none = none) (h2 : y ∉ c.wo) (h3 : LinkC N c x y) :
    InT N c d st B r x nr (st2.set y.toNat (some (d + 1))) (if hostN N y = false then F ++ [y] else F) := by
  have hlt : y.toNat < st2.length := by have := h.len; omega
  have e : ∀ v : Int, 0 ≤ v → (st2.set y.toNat (some (d + 1))).getD v.toNat none = if v = y then some (d + 1) else st2.getD v.toNat none := fun v hv => by
    rw [getD_setN hlt]
    by_cases q : v = y
    · rw [if_pos (by rw [q]), if_pos q]
    · rw [if_neg (by omega), if_neg q]
  have up : ∀ b : Int, st2.getD b.toNat none ≠ none → (st2.set y.toNat (some (d + 1))).getD b.toNat none ≠ none := fun b hb => by
    rw [getD_setN hlt]
    split
    · exact fun z => nomatch z
    · exact hb
  have o1 : st.getD y.toNat none = none := by
    cases q : st.getD y.toNat none with
    | none => rfl
    | some k => rw [h.old y hy.1 hy.2 k q] at h1; cases h1
  refine ⟨by rw [List.length_set]; exact h.len, fun v v0 v1 k q => ?_, fun v v0 v1 k q1 q2 => ?_, fun a ha => ?_, fun z => ?_, ?_⟩
  · rw [e v v0, if_neg (fun z => by rw [z, o1] at q; cases q)]
    exact h.old v v0 v1 k q
  · rw [e v v0] at q2
    split at q2
    · rename_i q
      cases q2
      exact ⟨rfl, q ▸ h2, x, hx, q ▸ h3⟩
    · exact h.new v v0 v1 k q1 q2
  · refine (h.dn a ha).imp_right fun q b hb hw => ?_
    rcases q b hb hw with ⟨q1, q2⟩ | q
    · rcases List.mem_cons.mp q2 with q2 | q2
      · subst q2
        exact .inr (by rw [e b hy.1, if_pos rfl]; exact fun z => nomatch z)
      · exact .inl ⟨q1, q2⟩
    · exact .inr (up b q)
  · have fz := h.fb z
    by_cases qz : z = y
    · subst qz
      constructor
      · intro hz
        refine ⟨hy, o1, (by rw [e z hy.1, if_pos rfl]; exact fun z => (nomatch z)), ?_⟩
        split at hz
        · assumption
        · exact (fz.mp hz).2.2.2
      · rintro ⟨_, _, _, hh⟩
        rw [if_pos hh]
        exact List.mem_append_right _ (List.mem_singleton.mpr rfl)
    · have : z ∈ (if hostN N y = false then F ++ [y] else F) ↔ z ∈ F := by
        split
        · rw [List.mem_append, List.mem_singleton]
          exact ⟨fun q => q.elim id fun q => absurd q qz, .inl⟩
        · exact Iff.rfl
      rw [this, fz]
      refine and_congr_right fun hr => ?_
      rw [e z hr.1, if_neg qz]
  · have := cN_set (k := d + 1) hlt h1
    have hc := h.cnt
    split
    · rw [List.length_append, List.length_singleton]; omega
    · omega
theorem InT.lev (hL : LevT N c l d st B) (hl : 0 ≤ l ∧ l < N.ks.length) (h : InT N c d st B [] 0 [] st2 F) (hN : NetW N) : LevT N c l (d + 1) st2 F := by
  have hl0 : ∀ v : Int, 0 ≤ v → v < N.ks.length → st.getD v.toNat none = none → v ≠ l := fun v v0 v1 q e => hL.nn v v0 v1 q 0 (Nat.zero_le _) (wayN_zero.mpr e)
  refine ⟨h.len, fun v v0 v1 k q => ?_, fun v v0 v1 q j hj hw => ?_, fun y => ?_⟩
  · cases o : st.getD v.toNat none with
    | some k' =>
      have := h.old v v0 v1 k' o
      rw [this] at q
      cases q
      have := hL.wb v v0 v1 _ o
      exact ⟨by omega, this.2⟩
    | none =>
      obtain ⟨rfl, w1, a, ha, w2⟩ := h.new v v0 v1 k o q
      obtain ⟨a1, a2, a3⟩ := (hL.bd a).mp ha
      have hm := (hL.wb a a1.1 a1.2 d a3).2
      refine ⟨Nat.le_refl _, wayN_succ.mpr ⟨w1, a, w2.comm, a2, hm.1⟩, fun j hj => hL.nn v v0 v1 o j (by omega)⟩
  · have o : st.getD v.toNat none = none := by
      cases o : st.getD v.toNat none with
      | none => rfl
      | some k' => rw [h.old v v0 v1 k' o] at q; cases q
    by_cases hj2 : j ≤ d
    · exact hL.nn v v0 v1 o j hj2 hw
    · have e : j = d + 1 := by omega
      subst e
      obtain ⟨w1, a, w2, w3, w4⟩ := wayN_succ.mp hw
      have ar := (join_in hN w2.1).2
      cases oa : st.getD a.toNat none with
      | none => exact hL.nn a ar.1 ar.2 oa d (Nat.le_refl _) w4
      | some k =>
        obtain ⟨k1, k2⟩ := hL.wb a ar.1 ar.2 k oa
        by_cases qk : k = d
        · subst qk
          have ha := (hL.bd a).mpr ⟨ar, w3, oa⟩
          rcases h.dn a ha with z | z
          · cases z
          · exact (z v w2.comm w1).elim (fun z => nomatch z.2) (fun z => z q)
        · exact hL.nn v v0 v1 o (k + 1) (by omega) (wayN_succ.mpr ⟨w1, a, w2, w3, k2.1⟩)
  · rw [h.fb]
    constructor
    · rintro ⟨y1, y2, y3, y4⟩
      refine ⟨y1, .inr y4, ?_⟩
      cases q : st2.getD y.toNat none with
      | none => exact absurd q y3
      | some k => rw [(h.new y y1.1 y1.2 k y2 q).1]
    · rintro ⟨y1, y2, y3⟩
      have o : st.getD y.toNat none = none := by
        cases o : st.getD y.toNat none with
        | none => rfl
        | some k' =>
          have := h.old y y1.1 y1.2 k' o
          rw [this] at y3
          cases y3
          have := (hL.wb y y1.1 y1.2 _ o).1
          omega
      refine ⟨y1, o, (by rw [y3]; exact fun z => (nomatch z)), ?_⟩
      exact y2.elim (fun z => absurd z (hl0 y y1.1 y1.2 o)) id
theorem LevT.fin (hN : NetW N) (h : LevT N c l d st []) : DistOk N c l st := by
  have key : ∀ (j : Nat) (v : Int), 0 ≤ v → v < N.ks.length → WayN N c l j v → st.getD v.toNat none ≠ none := by
    intro j
    induction j with
    | zero =>
      intro v v0 v1 hw q
      exact h.nn v v0 v1 q 0 (Nat.zero_le _) hw
    | succ j ih =>
      intro v v0 v1 hw q
      obtain ⟨w1, a, w2, w3, w4⟩ := wayN_succ.mp hw
      have ar := (join_in hN w2.1).2
      cases oa : st.getD a.toNat none with
      | none => exact ih a ar.1 ar.2 w4 oa
      | some k =>
        obtain ⟨k1, k2⟩ := h.wb a ar.1 ar.2 k oa
        by_cases qk : k = d
        · subst qk
          exact nomatch (h.bd a).mpr ⟨ar, w3, oa⟩
        · exact h.nn v v0 v1 q (k + 1) (by omega) (wayN_succ.mpr ⟨w1, a, w2, w3, k2.1⟩)
  refine ⟨h.len, fun v v0 v1 k => ⟨fun q => (h.wb v v0 v1 k q).2, fun q => ?_⟩⟩
  cases o : st.getD v.toNat none with
  | none => exact absurd o (key k v v0 v1 q.1)
  | some k' => rw [(h.wb v v0 v1 k' o).2.eq q]
end
theorem wayL_in {N : NetV} (hN : NetW N) {c : CutV} {l : Int} : ∀ {r : List Int} {v : Int}, WayL N c l (v :: r) → (0 ≤ v ∧ v < N.ks.length) → ∀ x ∈ v :: r, 0 ≤ x ∧ x < N.ks.length
  | [], v, _, hv => fun x hx => by rw [List.mem_singleton.mp hx]; exact hv
  | y :: r, v, h, hv => fun x hx => by
    rcases List.mem_cons.mp hx with rfl | hx
    · exact hv
    · exact wayL_in hN h.2.2.2 (join_in hN h.2.1.1).2 x hx
theorem range_le {n : Nat} {l : List Int} (hn : l.Nodup) (h : ∀ x ∈ l, 0 ≤ x ∧ x < n) : l.length ≤ n := by
  have := count_le n (ks := List.replicate n false) (l := l.map Int.toNat) List.length_replicate (List.pairwise_map.mpr (List.Pairwise.imp_of_mem (fun {x y} hx hy e z => by
      have := h x hx
      have := h y hy
      exact e (by omega)) hn)) fun x hx => by
    obtain ⟨y, hy, rfl⟩ := List.mem_map.mp hx
    have := h y hy
    refine ⟨by rw [List.length_replicate]; omega, ?_⟩
    rw [List.getD_eq_getElem?_getD, List.getElem?_replicate]
    split <;> rfl
  rw [List.length_map] at this
  refine Nat.le_trans this (Nat.le_trans (List.length_filter_le _ _) ?_)
  rw [List.length_replicate]
  exact Nat.le_refl _
theorem minW_le {N : NetV} (hN : NetW N) {c : CutV} {l : Int} {k : Nat} {v : Int} (h : MinW N c l k v) (hv : 0 ≤ v ∧ v < N.ks.length) : k + 1 ≤ N.ks.length := by
  obtain ⟨r, rfl, hw⟩ := h.1
  exact range_le (minW_nodup hw h) (wayL_in hN hw hv)
end Vl
namespace Vl
open PySem PySem.Spec PyProof.Rows L2
/-! ### x < y for data alike (tuples and lists of ints, nested) -/
def rLtD (K : PySem.W.Frag) : R2 := fun x y H Q => ∃ d e, Dp K H x d ∧ Dp K H y e ∧ SeqAt.shaped d = true ∧ SeqAt.shaped e = true ∧ PySem.W.alike d e = true ∧ d ≠ .none ∧ Q (.bl (PySem.W.dataLt d e)) H
theorem op_ltD {X : Cx} (hu : X.A.units + 64 < cLine) : OpR X (compareOp .Lt) (rLtD X.K) := by
  intro pins s σ H x y v u Q I rx ry h
  obtain ⟨d, e, hd, he, sd, se, ha, hn, q⟩ := h
  obtain ⟨as, r1⟩ := Dp.reads I d x v hd rx
  obtain ⟨bs, r2⟩ := Dp.reads I e y u he ry
  exact PySem.W.rcLt_alike d e X.A s v u as bs r1 r2 ha hn (SeqAt.room_of_shaped sd hu) X.prog X.w _ _ ⟨.bl _, H, I, rfl, q⟩
def dLtD : W → W → (W → Prop) → Prop := fun x y Q => okD x.toD = true ∧ okD y.toD = true ∧ PySem.W.alike (pd x.toD) (pd y.toD) = true ∧ pd x.toD ≠ .none ∧ Q (.cl (.bl (PySem.W.dataLt (pd x.toD) (pd y.toD))))
theorem b_ltD {T : Tb} : Bin2 T (rLtD T.K) dLtD := by
  intro G F H F' H' x y u w P Q go rx ry h k
  obtain ⟨o1, o2, al, hn, q⟩ := h
  exact ⟨_, _, (rx.rep go.ex).dpo o1, (ry.rep go.ex).dpo o2, o1, o2, al, hn, k _ q _ _ _ go (.bl _)⟩
theorem pds_ints : ∀ xs : List Int, pds (xs.map .int) = xs.map .int
  | [] => rfl
  | x :: r => by rw [List.map_cons, List.map_cons, ← pds_ints r]; rfl
/-- (len(p), p) < (len(q), q) -/
theorem lt_len_list (p q : List Int) : PySem.W.alike (pd (.tup [.int p.length, .lst (p.map .int)])) (pd (.tup [.int q.length, .lst (q.map .int)])) = true ∧
    PySem.W.dataLt (pd (.tup [.int p.length, .lst (p.map .int)])) (pd (.tup [.int q.length, .lst (q.map .int)])) = decide (p.length < q.length ∨ (p.length = q.length ∧ p < q)) := by
  have e1 : pd (.tup [.int p.length, .lst (p.map .int)]) = .tuple [.int p.length, .list (p.map .int)] := by
    show PyData.tuple [.int p.length, .list (pds (p.map .int))] = _
    rw [pds_ints]
  have e2 : pd (.tup [.int q.length, .lst (q.map .int)]) = .tuple [.int q.length, .list (q.map .int)] := by
    show PyData.tuple [.int q.length, .list (pds (q.map .int))] = _
    rw [pds_ints]
  have al : ∀ xs ys : List Int, PySem.W.alike (.list (xs.map .int)) (.list (ys.map .int)) = true := by
    intro xs ys
    simp only [PySem.W.alike]
    induction xs generalizing ys with
    | nil => simp [PySem.W.alikeAll]
    | cons x r ih =>
      cases ys with
      | nil => simp [PySem.W.alikeAll]
      | cons y s => simp [PySem.W.alikeAll, PySem.W.alike, ih]
  have ai : ∀ i j : Int, PySem.W.alike (.int i) (.int j) = true := fun i j => by simp [PySem.W.alike]
  rw [e1, e2]
  constructor
  · simp only [PySem.W.alike, PySem.W.alikeAll, Bool.and_eq_true]
    have := al p q
    simp only [PySem.W.alike] at this
    exact ⟨trivial, this, trivial⟩
  · rw [PySem.W.dataLt_pair (ai _ _) (al _ _), PySem.W.dataLt_int, PySem.W.dataLt_list]
    have := PySem.W.dataLt_ints p q
    unfold PySem.W.rowLt at this
    rw [this]
    have e : PyData.eqv (.list (p.map .int)) (.list (q.map .int)) = true ↔ p = q := by
      rw [← pds_ints, ← pds_ints, show PyData.eqv (.list (pds (p.map .int))) (.list (pds (q.map .int))) = eqD (.lst (p.map .int)) (.lst (q.map .int)) from rfl]
      rw [eqD_lst (f := D.int) (fun x y => by show (x == y) = _; exact (Bool.beq_eq_decide_eq x y))]
      exact decide_eq_true_iff
    by_cases h1 : p.length = q.length
    · rw [if_pos (by rw [h1]; simp [PyData.eqv])]
      by_cases h2 : p = q
      · rw [if_pos (e.mpr h2), h2]
        simp [List.lt_irrefl]
      · rw [if_neg (fun z => h2 (e.mp z))]
        simp [h1]
    · rw [if_neg (by simp [PyData.eqv]; omega)]
      apply decide_eq_decide.mpr
      constructor
      · intro z; exact .inl (by omega)
      · rintro (z | z)
        · omega
        · exact absurd z.1 h1
end Vl
set_option maxHeartbeats 2000000
local macro_rules | `(tactic| walk_at "vs") => `(tactic| simp only [Vl.aSeq, Vl.aFor_eq, Vl.aIf, Vl.aB, Vl.aBin, Vl.aUn, Vl.aV, Vl.slotW, Vl.gt_z, Vl.gt_s, Vl.aCB, Vl.aCall, Vl.aCons, Vl.aNil, Vl.argW, Vl.dLt_eq, Vl.dLe_eq, Vl.dGt_eq, Vl.dGe_eq, Vl.dI0, Vl.dI, Vl.dAdd, Vl.dSub_eq, Vl.dMul, Vl.dDiv_eq, Vl.dMod_eq, Vl.dPow_eq, Vl.dShl_eq, Vl.dNeg, Vl.dNot, Vl.dIsN, Vl.dNotN, Vl.dEq, Vl.dNe, Vl.dIn, Vl.dIx, Vl.fLen_lst, Vl.fLen_tup, Vl.fLen_ow, Vl.fLen_bw, Vl.fLen_scr, Vl.fLen_str, Vl.fInt_int, Vl.fInt_bl, Vl.fAbs_int, Vl.fMax_int, Vl.fMin_int, Vl.fGcd_int, Vl.fLcm_int, Vl.fList_lst, Vl.fList_tup, Vl.fList_ow, Vl.fList_bw, Vl.fList_scr, Vl.seqC, Vl.lstC, Vl.itemsC, Vl.clW, Vl.W.toD, Vl.M.toD, Vl.clDs, Option.map_some, Option.map_none,
  Vl.aRet, Vl.aRetV, Vl.aRetN, Vl.aNext, Vl.aBreak, Vl.aCont, Vl.aC, Vl.aSet, Vl.aSetC, Vl.slotA, Vl.aDrop, Vl.aAsgG, Vl.agN, Vl.agT, Vl.agCons, Vl.agNil, Vl.iLst, Vl.iTup, Vl.iR1, Vl.iR2, Vl.aTup, Vl.aLst, Vl.aAnd, Vl.aOr, Vl.aNot, Vl.aAndV, Vl.aOrV, Vl.aIfE, Vl.aSl, Vl.aoS, Vl.aoN, Vl.aChain, Vl.aAugAdd, Vl.aAugSub, Vl.aMut, Vl.aMutS, Vl.mAppend, Vl.mPop, Vl.mPopAt, Vl.mReverse, Vl.tyM, Vl.aFrz, Vl.frz, Vl.aSetIx, Vl.aLc, Vl.wipeA, Vl.aYes,
  List.set_cons_zero, List.set_cons_succ, List.length_map, List.length_cons, List.length_nil, decide_eq_true_eq, Bool.not_true, Bool.not_false, if_true, if_false, Bool.false_eq_true, Vl.okD_int, Vl.okD_bl, Vl.okD_non, Vl.eqD_int, Vl.eqD_bl, Vl.eqD_non, true_and, and_true, Vl.snoc_int, Vl.aIsi, Vl.isi_bl_bool, Vl.isi_bl_int, Vl.isi_int_int, Vl.isi_int_bool, Vl.isi_non_int, Vl.isi_non_bool, Vl.isi_lst_list, Vl.isi_tup_list, Vl.isi_tup_tuple, Vl.isi_non_tuple, Vl.isi_non_list, Vl.isi_str_str, Vl.isi_lst_bool, Vl.isi_str_bool, Vl.isi_tup_bool, Vl.ixD_0, Vl.ixD_1, Vl.ixD_2, Vl.ixD_3, Vl.ixD_4, Vl.ixD_5, Vl.ixD_6, Vl.ixD_7, Vl.ixD_8, Vl.ixD_9, Vl.ixD_10, Vl.ixD_11, Vl.aFld, Vl.aMeth, Vl.aMake, Vl.aMakeK, Vl.mInsert, Vl.aIndex, Vl.fMax1_eq, Vl.fSorted_eq, List.getElem?_cons_zero, List.getElem?_cons_succ, List.cons_append, List.nil_append, Vl.aPar, Vl.aIsO, Vl.dNeS, Vl.aDNew, Vl.dEqO, Vl.aDGet, Vl.aDIx, Vl.dInD, Vl.kidsW, Vl.keyO, Vl.keyF, Vl.keysF, Vl.getK_map, Vl.M.toDs, Vl.refM, Vl.bwM, Vl.owM, Vl.aMakeO, Vl.aSetX, Vl.aSetCX, Vl.aDropX, Vl.aRetX, Vl.aAsgGX, Vl.aIfX, Vl.xP, Vl.tP, Vl.aBX, Vl.aAndX, Vl.aOrX, Vl.aNotX, Vl.aBinX, Vl.aCallL, Vl.aMethL, Vl.alHere, Vl.alCons, Vl.setP, Vl.apV, Vl.apFld, Vl.apIx, Vl.apKey, Vl.aMutP, Vl.aFSet, Vl.aDPutP, Vl.kidW, Vl.putM, Vl.dctM, Vl.aLstO, Vl.aoCons, Vl.aoNil, Vl.aDisp, Vl.dispGo, Vl.iLstG, Vl.xMut, Vl.fLenD, Vl.one, Vl.mRemove, Vl.apW, Vl.allW_nil, Vl.allW_cons, Vl.anHere, Vl.anCons, Vl.aCallN, Vl.aCallF, Vl.clAlls, Vl.clAll, Vl.flatW, Vl.flatD, Vl.flatDs, Bool.and_true, Bool.true_and, Vl.aDNewM, Vl.fSortT_eq, Vl.fSortDT_eq, Vl.fMinD_eq, Vl.fMaxD_eq, Vl.aForX_eq, Vl.aCallK, Vl.aCallD, Vl.xSortPop, Vl.dEqS, Vl.aSlT, Vl.aClE, Vl.aLenSet, Vl.aMakeD])
namespace Vl
open PySem PySem.Spec PyProof.Rows L2
theorem eqD_cut (a b x y : Int) (q : Option (Int × Int)) (hx : x = mnI a b) (hy : y = mxI a b) : eqD (.tup [.int x, .int y]) (cutD2 q) = decide (q = some (mnI a b, mxI a b)) := by
  subst hx hy
  cases q with
  | none => rfl
  | some q =>
    obtain ⟨u, v⟩ := q
    show ((mnI a b == u) && ((mxI a b == v) && true)) = _
    by_cases h : u = mnI a b ∧ v = mxI a b
    · obtain ⟨rfl, rfl⟩ := h
      simp
    · rw [decide_eq_false (fun z => h (by injection z with z; exact Prod.mk.inj z)), Bool.eq_false_iff]
      intro z
      simp at z
      exact h ⟨z.1.symm, z.2.symm⟩
theorem okD_cut (q : Option (Int × Int)) : okD (cutD2 q) = true := by
  cases q with
  | none => rfl
  | some q => rfl
theorem ixD_oD {st : List (Option Nat)} {v : Int} (h0 : 0 ≤ v) (h1 : v.toNat < st.length) : ixD (st.map oD) v = some (oD (st.getD v.toNat none)) :=
  ixD_map oD h0 (by rw [List.getD_eq_getElem?_getD, List.getElem?_eq_getElem h1]; rfl)
theorem replicate_oD (n : Nat) : (List.replicate n [D.non]).flatten = (List.replicate n (none : Option Nat)).map oD := by
  induction n with
  | zero => rfl
  | succ n ih => rw [List.replicate_succ, List.replicate_succ, List.flatten_cons, ih]; rfl
abbrev netI2 (N : NetV) : D := .ins 0 [.lst (N.ks.map kD), .lst (N.ls.map lnD), .int N.pr, .int N.er]
def c__levels : Ct := fun ws Q => ∃ (N : NetV) (f l : Int) (c : CutV), ws = [.cl (.ins 0 [.lst (N.ks.map kD), .lst (N.ls.map lnD), .int N.pr, .int N.er]), .cl (.int f), .cl (.int l), .cl (.lst (c.wo.map .int)), .cl (cutD2 c.cut)] ∧ NetW N ∧ (0 ≤ l ∧ l < N.ks.length) ∧ c.wo.length ≤ 1000 ∧ ∀ st, DistOk N c l st → Q (.fr (.fl (st.map oD)))
theorem l__levels : ∀ ws P, c__levels ws P → ws.length = 5 := by rintro ws P ⟨N, f, l, c, rfl, _⟩; rfl
/-- _levels: slots 0=net 1=first 2=last 3=without 4=cut 5=steps 6=border 7=further 8=node 9=other -/
def a__levels : AS :=
  aSeq (aSet 5 (aBin dMul (aLst (aCons (aC .non) (aNil))) (aCB fLen1 (aCons (aFld 0 0 (aV 0)) (aNil))))) (aSeq (aSetIx 5 (aV 2) (aC (.int 0))) (aSeq (aSetC 6 (aLst (aCons (aV 2) (aNil)))) (aSeq (aWhile (aB (aBin (dGt) (aCB fLen1 (aCons (aV 6) (aNil))) (aC (.int 0)))) (aSeq (aSet 7 (aLst (aNil))) (aSeq (aFor (iLst (aV 6)) (agN 8) (aFor (iLst (aMeth 0 c_Net_neighbours (aV 0) (aCons (aV 8) (aNil)))) (agN 9) (aSeq (aIf (aOr (aB (aBin (dNotN) (aBin dIx (aV 5) (aV 9)) (aC .non))) (aOr (aB (aBin (dIn false) (aV 9) (aV 3))) (aB (aBin (dEq) (aTup (aCons (aCB fMin2 (aCons (aV 8) (aCons (aV 9) (aNil)))) (aCons (aCB fMax2 (aCons (aV 8) (aCons (aV 9) (aNil)))) (aNil)))) (aV 4))))) (aCont) (aNext)) (aSeq (aSetIx 5 (aV 9) (aBin dAdd (aBin dIx (aV 5) (aV 8)) (aC (.int 1)))) (aIf (aB (aBin (dEq) (aBin dIx (aFld 0 0 (aV 0)) (aV 9)) (aC (.str "switch")))) (aMut "list" 7 mAppend (aCons (aV 9) (aNil))) (aNext)))))) (aFrz 7 (aSetC 6 (aV 7)))))) (aRetV 5))))
theorem w__levels : ∀ ws P, c__levels ws P → a__levels { nx := fun _ => P (.cl .non), rt := fun w _ => P w } (startA 10 ws) := by
  rintro ws P ⟨N, f, l, c, rfl, hN, hl, hwo, h⟩
  show a__levels _ [.im (.ins 0 [.lst (N.ks.map kD), .lst (N.ls.map lnD), .int N.pr, .int N.er]), .im (.int f), .im (.int l), .im (.lst (c.wo.map .int)), .im (cutD2 c.cut), .non, .non, .non, .non, .non]
  have hn := hN.n60
  unfold a__levels
  walk_at "vs"
  rw [replicate_oD]
  refine ⟨by omega, ?_⟩
  rw [show (N.ks.length : Int).toNat = N.ks.length by omega, List.length_map, List.length_replicate, ixN_nn hl.1 hl.2]
  refine ⟨by omega, ?_⟩
  simp only []
  refine ⟨by decide, ?_⟩
  have os : okD (.str "switch") = true := okD_k false
  refine while_by (fun m δ => ∃ (d : Nat) (st : List (Option Nat)) (B : List Int) (x y z : AV), δ = [.im (.ins 0 [.lst (N.ks.map kD), .lst (N.ls.map lnD), .int N.pr, .int N.er]), .im (.int f), .im (.int l), .im (.lst (c.wo.map .int)), .im (cutD2 c.cut), .ow false (.fl (st.map oD)), .im (.lst (B.map .int)), x, y, z] ∧ LevT N c l d st B ∧ m = 2 * cN st + (if B = [] then 0 else 1)) _ ⟨0, _, [l], _, _, _, (by rw [List.map_set]; rfl), LevT.start hl, rfl⟩ ?_
  rintro m δ ⟨d, st, B, x7, x8, x9, rfl, hL, rfl⟩
  walk_at "vs"
  by_cases hB : B = []
  · subst hB
    exact ite_no (by simp) (h st (hL.fin hN))
  have hB1 : 0 < B.length := List.length_pos_iff.mpr hB
  refine ite_yes (by omega) ⟨by decide, ?_⟩
  refine for_map D.int B (fun r δ => ∃ (st2 : List (Option Nat)) (F : List Int) (x y : AV), δ = [.im (.ins 0 [.lst (N.ks.map kD), .lst (N.ls.map lnD), .int N.pr, .int N.er]), .im (.int f), .im (.int l), .im (.lst (c.wo.map .int)), .im (cutD2 c.cut), .ow false (.fl (st2.map oD)), .im (.lst (B.map .int)), .ow false (.fl (F.map .int)), x, y] ∧ InT N c d st B r 0 [] st2 F) ⟨st, [], _, _, rfl, hL.inn⟩ ?_ ?_
  · rintro x r δ ⟨l0, hl0⟩ ⟨st2, F, y8, y9, rfl, hI⟩
    have hxB : x ∈ B := by rw [hl0]; simp
    obtain ⟨x1, x2, x3⟩ := (hL.bd x).mp hxB
    walk_at "vs"
    refine ⟨N, x, rfl, hN, ?_⟩
    walk_at "vs"
    refine for_map D.int (nbrN N x) (fun nr δ => ∃ (st2 : List (Option Nat)) (F : List Int) (y : AV), δ = [.im (.ins 0 [.lst (N.ks.map kD), .lst (N.ls.map lnD), .int N.pr, .int N.er]), .im (.int f), .im (.int l), .im (.lst (c.wo.map .int)), .im (cutD2 c.cut), .ow false (.fl (st2.map oD)), .im (.lst (B.map .int)), .ow false (.fl (F.map .int)), .im (.int x), y] ∧ InT N c d st B r x nr st2 F) ⟨st2, F, _, rfl, hI.row hN⟩ ?_ ?_
    · rintro y nr δ ⟨n0, hn0⟩ ⟨st3, F3, z9, rfl, hJ⟩
      have hy : y ∈ nbrN N x := by rw [hn0]; simp
      have hj := (mem_nbr hN).mp hy
      have hr := (join_in hN hj).2
      have hl3 := hJ.len
      walk_at "vs"
      rw [ixD_oD hr.1 (by omega)]
      cases hs : st3.getD y.toNat none with
      | some k =>
        simp only [oD]
        exact ⟨st3, F3, _, rfl, hJ.skip (.inl (by rw [hs]; exact fun z => (nomatch z)))⟩
      | none =>
        simp only [oD]
        refine ⟨okD_il _, ?_⟩
        by_cases hw : y ∈ c.wo
        · exact ite_yes (by rw [inD_ints]; exact decide_eq_true hw) ⟨st3, F3, _, rfl, hJ.skip (.inr (.inl hw))⟩
        refine ite_no (by rw [inD_ints, decide_eq_false hw]; exact fun z => nomatch z) ⟨by decide, rfl, okD_cut _, ?_⟩
        have ec : eqD (.tup [.int (if y < x then y else x), .int (if y > x then y else x)]) (cutD2 c.cut) = decide (c.cut = some (mnI x y, mxI x y)) := eqD_cut x y _ _ _ rfl rfl
        by_cases hc : c.cut = some (mnI x y, mxI x y)
        · exact ite_yes (by rw [ec]; exact decide_eq_true hc) ⟨st3, F3, _, rfl, hJ.skip (.inr (.inr hc))⟩
        refine ite_no (by rw [ec, decide_eq_false hc]; exact fun z => nomatch z) ?_
        rw [ixD_oD x1.1 (by omega), hJ.old x x1.1 x1.2 d x3, ixN_nn hr.1 (by omega), ixD_kD hr.1 hr.2]
        simp only [oD]
        refine ⟨okD_k _, os, ?_⟩
        have hA := hJ.add hxB hr hs hw ⟨hj, hc⟩
        have e3 : eqD (kD (N.ks.getD y.toNat false)) (.str (Str.ofString "switch")) = !hostN N y := eqD_ks _
        rw [e3]
        have e4 : (st3.map oD).set y.toNat (D.int ((d : Int) + 1)) = (st3.set y.toNat (some (d + 1))).map oD := by rw [List.map_set]; rfl
        rw [e4]
        cases q : hostN N y with
        | true =>
          rw [q, if_neg (fun z => nomatch z)] at hA
          exact ite_no (fun z => nomatch z) ⟨_, F3, _, rfl, hA⟩
        | false =>
          rw [q, if_pos rfl] at hA
          have hc1 := hA.cnt
          refine ite_yes rfl ⟨?_, _, _, _, rfl, hA⟩
          have : cN st ≤ st.length := List.countP_le_length
          have := hL.len
          rw [List.length_append, List.length_singleton] at hc1
          omega
    · rintro δ ⟨st3, F3, z9, rfl, hJ⟩
      exact ⟨st3, F3, _, _, rfl, hJ.out⟩
  · rintro δ ⟨st2, F, y8, y9, rfl, hI⟩
    walk_at "vs"
    refine ⟨_, ?_, d + 1, st2, F, _, _, _, rfl, hI.lev hL hl hN, rfl⟩
    have := hI.cnt
    rw [if_neg hB]
    split
    · omega
    · rename_i q
      have := List.length_pos_iff.mpr q
      omega
def c__path_without : Ct := fun ws Q => ∃ (N : NetV) (f l : Int) (c : CutV), ws = [.cl (.ins 0 [.lst (N.ks.map kD), .lst (N.ls.map lnD), .int N.pr, .int N.er]), .cl (.int f), .cl (.int l), .cl (.lst (c.wo.map .int)), .cl (cutD2 c.cut)] ∧ NetW N ∧ (0 ≤ f ∧ f < N.ks.length) ∧ (0 ≤ l ∧ l < N.ks.length) ∧ c.wo.length ≤ 1000 ∧
  ((∀ k, ¬ WayN N c l k f) → Q (.cl .non)) ∧ ∀ st k, DistOk N c l st → MinW N c l k f → Q (.fr (.fl ((f :: bestL N c l st k f).map .int)))
theorem l__path_without : ∀ ws P, c__path_without ws P → ws.length = 5 := by rintro ws P ⟨N, f, l, c, rfl, _⟩; rfl
/-- _path_without: slots 0=net 1=first 2=last 3=without 4=cut 5=steps 6=path 7=here 8=other 9=known -/
def a__path_without : AS :=
  aSeq (aSetC 5 (aCall c__levels (aCons (aV 0) (aCons (aV 1) (aCons (aV 2) (aCons (aV 3) (aCons (aV 4) (aNil)))))))) (aSeq (aIf (aB (aBin (dIsN) (aBin dIx (aV 5) (aV 1)) (aC .non))) (aRet (aC .non)) (aNext)) (aSeq (aSet 6 (aLst (aCons (aV 1) (aNil)))) (aSeq (aWhile (aB (aBin (dNe) (aBin dIx (aV 6) (aUn dNeg (aC (.int 1)))) (aV 2))) (aSeq (aSetC 7 (aBin dIx (aV 6) (aUn dNeg (aC (.int 1))))) (aFor (iLst (aMeth 0 c_Net_neighbours (aV 0) (aCons (aV 7) (aNil)))) (agN 8) (aSeq (aSetC 9 (aAndV (aBin (dNotN) (aBin dIx (aV 5) (aV 8)) (aC .non)) (aOrV (aBin (dEq) (aV 8) (aV 2)) (aBin (dEq) (aBin dIx (aFld 0 0 (aV 0)) (aV 8)) (aC (.str "switch")))))) (aIf (aAnd (aB (aV 9)) (aAnd (aB (aBin (dEq) (aBin dIx (aV 5) (aV 8)) (aBin dSub (aBin dIx (aV 5) (aV 7)) (aC (.int 1))))) (aB (aBin (dNe) (aTup (aCons (aCB fMin2 (aCons (aV 7) (aCons (aV 8) (aNil)))) (aCons (aCB fMax2 (aCons (aV 7) (aCons (aV 8) (aNil)))) (aNil)))) (aV 4))))) (aSeq (aMut "list" 6 mAppend (aCons (aV 8) (aNil))) (aBreak)) (aNext)))))) (aRetV 6))))
theorem w__path_without : ∀ ws P, c__path_without ws P → a__path_without { nx := fun _ => P (.cl .non), rt := fun w _ => P w } (startA 10 ws) := by
  rintro ws P ⟨N, f, l, c, rfl, hN, hf, hl, hwo, h1, h2⟩
  show a__path_without _ [.im (.ins 0 [.lst (N.ks.map kD), .lst (N.ls.map lnD), .int N.pr, .int N.er]), .im (.int f), .im (.int l), .im (.lst (c.wo.map .int)), .im (cutD2 c.cut), .non, .non, .non, .non, .non]
  have hn := hN.n60
  have os : okD (.str "switch") = true := okD_k false
  unfold a__path_without
  walk_at "vs"
  refine ⟨N, f, l, c, rfl, hN, hl, hwo, fun st hD => ?_⟩
  have hst := hD.1
  walk_at "vs"
  rw [ixD_oD hf.1 (by omega)]
  cases hs : st.getD f.toNat none with
  | none =>
    simp only [oD, if_true]
    refine h1 fun k hk => ?_
    obtain ⟨j, _, hm⟩ := hk.min
    rw [(hD.2 f hf.1 hf.2 j).mpr hm] at hs
    cases hs
  | some k0 =>
    simp only [oD, if_false]
    have hm0 := (hD.2 f hf.1 hf.2 k0).mp hs
    have fin := h2 st k0 hD hm0
    refine ⟨by decide, ?_⟩
    refine while_by (fun m δ => ∃ (pre : List Int) (v : Int) (x y z : AV), δ = [.im (.ins 0 [.lst (N.ks.map kD), .lst (N.ls.map lnD), .int N.pr, .int N.er]), .im (.int f), .im (.int l), .im (.lst (c.wo.map .int)), .im (cutD2 c.cut), .im (.lst (st.map oD)), .ow false (.fl ((pre ++ [v]).map .int)), x, y, z] ∧
      MinW N c l m v ∧ (0 ≤ v ∧ v < N.ks.length) ∧ pre ++ v :: bestL N c l st m v = f :: bestL N c l st k0 f) k0 ⟨[], f, _, _, _, rfl, hm0, hf, rfl⟩ ?_
    rintro m δ ⟨pre, v, x7, x8, x9, rfl, hm, hv, hp⟩
    have hpl : pre.length ≤ 60 := by
      have := congrArg List.length hp
      rw [List.length_append, List.length_cons, List.length_cons, (best_ok hN hD hm0).2.1] at this
      have := minW_le hN hm0 hf
      omega
    have el : ixD ((pre ++ [v]).map D.int) (-1) = some (.int v) := by
      unfold ixD
      rw [if_neg (by decide), List.length_map, List.length_append, List.length_singleton, if_pos (by omega), List.getElem?_map, show ((-1 : Int) + ((pre.length + 1 : Nat) : Int)).toNat = pre.length by omega, List.getElem?_append_right (Nat.le_refl _), Nat.sub_self]
      rfl
    walk_at "vs"
    rw [el]
    simp only [okD_int, eqD_int, true_and]
    by_cases q : v = l
    · rw [decide_eq_true q]
      simp only [Bool.not_true, Bool.false_eq_true, if_false]
      have : m = 0 := hm.eq ⟨wayN_zero.mpr q, fun j hj => by omega⟩
      subst this
      rw [show pre ++ [v] = f :: bestL N c l st k0 f from hp]
      exact fin
    rw [decide_eq_false q]
    simp only [Bool.not_false, if_true]
    obtain ⟨m, rfl⟩ : ∃ m', m = m' + 1 := by
      cases m with
      | zero => exact absurd (wayN_zero.mp hm.1) q
      | succ m => exact ⟨m, rfl⟩
    obtain ⟨b, hb, b1, b2, b3, b4⟩ := best_next hN hD hm
    refine ⟨N, v, rfl, hN, ?_⟩
    walk_at "vs"
    refine for_map D.int (nbrN N v) (fun nr δ => ∃ (y z : AV), δ = [.im (.ins 0 [.lst (N.ks.map kD), .lst (N.ls.map lnD), .int N.pr, .int N.er]), .im (.int f), .im (.int l), .im (.lst (c.wo.map .int)), .im (cutD2 c.cut), .im (.lst (st.map oD)), .ow false (.fl ((pre ++ [v]).map .int)), .im (.int v), y, z] ∧
      nr.find? (candB N c l st m v) = some b) ⟨_, _, rfl, hb⟩ ?_ ?_
    · rintro y nr δ ⟨n0, hn0⟩ ⟨y8, y9, rfl, hJ⟩
      have hy : y ∈ nbrN N v := by rw [hn0]; simp
      have hj := (mem_nbr hN).mp hy
      have hr := (join_in hN hj).2
      have sv : st.getD v.toNat none = some (m + 1) := (hD.2 v hv.1 hv.2 _).mpr hm
      walk_at "vs"
      rw [ixD_oD hr.1 (by omega), ixD_oD hv.1 (by omega), sv]
      have skp : candB N c l st m v y = false → ∀ z8 z9 : AV, ∃ y8 y9 : AV, ([.im (.ins 0 [.lst (N.ks.map kD), .lst (N.ls.map lnD), .int N.pr, .int N.er]), .im (.int f), .im (.int l), .im (.lst (c.wo.map .int)), .im (cutD2 c.cut), .im (.lst (st.map oD)), .ow false (.fl ((pre ++ [v]).map .int)), .im (.int v), z8, z9] : List AV) = [.im (.ins 0 [.lst (N.ks.map kD), .lst (N.ls.map lnD), .int N.pr, .int N.er]), .im (.int f), .im (.int l), .im (.lst (c.wo.map .int)), .im (cutD2 c.cut), .im (.lst (st.map oD)), .ow false (.fl ((pre ++ [v]).map .int)), .im (.int v), y8, y9] ∧ nr.find? (candB N c l st m v) = some b := fun z z8 z9 =>
        ⟨_, _, rfl, by rw [List.find?_cons_of_neg (by rw [z]; exact fun z => nomatch z)] at hJ; exact hJ⟩
      have ec : eqD (.tup [.int (if y < v then y else v), .int (if y > v then y else v)]) (cutD2 c.cut) = decide (c.cut = some (mnI v y, mxI v y)) := eqD_cut v y _ _ _ rfl rfl
      have e3 : eqD (kD (N.ks.getD y.toNat false)) (.str (Str.ofString "switch")) = !hostN N y := eqD_ks _
      cases hs2 : st.getD y.toNat none with
      | none =>
        simp only [oD]
        exact skp (decide_eq_false fun z => by rw [hs2] at z; cases z.1) _ _
      | some k =>
        simp only [oD]
        by_cases ql : y = l
        · rw [decide_eq_true ql]
          simp only []
          simp only [oD, okD_int, eqD_int, true_and, decide_eq_true_eq]
          by_cases e : k = m
          · subst e
            refine ite_yes (by omega) ⟨by decide, rfl, okD_cut _, ?_⟩
            rw [ec]
            by_cases hc : c.cut = some (mnI v y, mxI v y)
            · refine ite_no (by rw [decide_eq_true hc]; exact fun z => nomatch z) (skp (decide_eq_false fun z => z.2.2 hc) _ _)
            · have hB : candB N c l st k v y = true := decide_eq_true ⟨hs2, .inl ql, hc⟩
              rw [List.find?_cons_of_pos hB] at hJ
              injection hJ with hJ
              subst hJ
              have eb : bestL N c l st (k + 1) v = y :: bestL N c l st k y := by
                show (match (nbrN N v).find? (candB N c l st k v) with
                  | some y => y :: bestL N c l st k y
                  | none => []) = _
                rw [hb]
              refine ite_yes (by rw [decide_eq_false hc]; rfl) ⟨by rw [List.length_append, List.length_singleton]; omega, k, by omega, pre ++ [v], y, _, _, _, rfl, b3, hr, ?_⟩
              rw [List.append_assoc, ← hp, eb]
              rfl
          · exact ite_no (by omega) (skp (decide_eq_false fun z => e (by have := hs2.symm.trans z.1; injection this)) _ _)
        · rw [decide_eq_false ql]
          simp only []
          rw [ixD_kD hr.1 hr.2]
          simp only []
          refine ⟨okD_k _, os, ?_⟩
          rw [e3]
          cases qh : hostN N y with
          | true => exact ite_no (fun z => nomatch z) (skp (decide_eq_false fun z => z.2.1.elim ql (fun z => by rw [qh] at z; cases z)) _ _)
          | false =>
            refine ite_yes rfl ?_
            simp only [oD, okD_int, eqD_int, true_and, decide_eq_true_eq]
            by_cases e : k = m
            · subst e
              refine ite_yes (by omega) ⟨by decide, rfl, okD_cut _, ?_⟩
              rw [ec]
              by_cases hc : c.cut = some (mnI v y, mxI v y)
              · refine ite_no (by rw [decide_eq_true hc]; exact fun z => nomatch z) (skp (decide_eq_false fun z => z.2.2 hc) _ _)
              · have hB : candB N c l st k v y = true := decide_eq_true ⟨hs2, .inr qh, hc⟩
                rw [List.find?_cons_of_pos hB] at hJ
                injection hJ with hJ
                subst hJ
                have eb : bestL N c l st (k + 1) v = y :: bestL N c l st k y := by
                  show (match (nbrN N v).find? (candB N c l st k v) with
                    | some y => y :: bestL N c l st k y
                    | none => []) = _
                  rw [hb]
                refine ite_yes (by rw [decide_eq_false hc]; rfl) ⟨by rw [List.length_append, List.length_singleton]; omega, k, by omega, pre ++ [v], y, _, _, _, rfl, b3, hr, ?_⟩
                rw [List.append_assoc, ← hp, eb]
                rfl
            · exact ite_no (by omega) (skp (decide_eq_false fun z => e (by have := hs2.symm.trans z.1; injection this)) _ _)
    · rintro δ ⟨y8, y9, rfl, hJ⟩
      cases hJ
def c0 : CutV := ⟨[], none⟩
def c_shortest_path : Ct := fun ws Q => ∃ (N : NetV) (f l : Int), ws = [.cl (.ins 0 [.lst (N.ks.map kD), .lst (N.ls.map lnD), .int N.pr, .int N.er]), .cl (.int f), .cl (.int l)] ∧ NetW N ∧ (0 ≤ f ∧ f < N.ks.length) ∧ (0 ≤ l ∧ l < N.ks.length) ∧
  ((∀ k, ¬ WayN N c0 l k f) → Q (.cl .non)) ∧ ∀ st k, DistOk N c0 l st → MinW N c0 l k f → Q (.fr (.fl ((f :: bestL N c0 l st k f).map .int)))
theorem l_shortest_path : ∀ ws P, c_shortest_path ws P → ws.length = 3 := by rintro ws P ⟨N, f, l, rfl, _⟩; rfl
/-- shortest_path: slots 0=net 1=first 2=last -/
def a_shortest_path : AS :=
  aRet (aCall c__path_without (aCons (aV 0) (aCons (aV 1) (aCons (aV 2) (aCons (aLst (aNil)) (aCons (aC .non) (aNil)))))))
theorem w_shortest_path : ∀ ws P, c_shortest_path ws P → a_shortest_path { nx := fun _ => P (.cl .non), rt := fun w _ => P w } (startA 3 ws) := by
  rintro ws P ⟨N, f, l, rfl, hN, hf, hl, h1, h2⟩
  show a_shortest_path _ [.im (.ins 0 [.lst (N.ks.map kD), .lst (N.ls.map lnD), .int N.pr, .int N.er]), .im (.int f), .im (.int l)]
  unfold a_shortest_path
  walk_at "vs"
  exact ⟨by decide, N, f, l, c0, rfl, hN, hf, hl, by decide, h1, h2⟩
end Vl
/-! Tuples of own things; comprehensions whose items are own things. -/
namespace Vl
open PySem PySem.Spec PyProof.Rows L2
def aTupO (es : AAO) : AE := fun δ Q => es δ fun ms => ms.length ≤ 1000000 ∧ Q (.fr (.tp ms))
def lcGoO (g : AG) (t : AT) (e : AE) (δ : List AV) : List D → List M → (W → Prop) → Prop
  | [], acc, Q => Q (.fr (.tl acc))
  | d :: ds, acc, Q => g d δ fun δ2 => t δ2 fun b => if b = true then e δ2 fun w => match kidW w with
      | some m => acc.length < 1000000 ∧ lcGoO g t e δ ds (acc ++ [m]) Q
      | none => False
    else lcGoO g t e δ ds acc Q
/-- a comprehension whose items are new own things -/
def aLcO (ai : AI) (g : AG) (t : AT) (e : AE) (vs : List Nat) : AE := fun δ Q => ai δ fun ds => lcGoO g t e (wipeA δ vs) ds [] Q
section
variable {T : Tb} {X : Cx} {e : Expr} {es : List Expr} {xs : AAO} {pos : Pos} {vs ks : List Nat} {σ : L2.St} {H : Hp}
theorem e_tupO {x1} (h : PA X es (rdAO T xs)) : PE X (.Tuple es x1 pos) (rdE T (aTupO xs)) := (pe_tup h).mono fun σ H Q h => by
  obtain ⟨G, F, δ, P, R, h, k⟩ := h
  refine ⟨G, F, δ, _, R, h, fun ms hw vs F1 H1 B g t hB => ?_⟩
  obtain ⟨l, q⟩ := hw
  refine ⟨by rw [t.length]; exact dSz_line l, fun p hp => ?_⟩
  have pB : p ∉ B := fun z => (t.mem p z).1 hp
  refine k _ q _ F1 _ (g.lay hp) ⟨p :: B, .tp upd_same pB (t.keep (Same.refl _) (fun a z => upd_ne fun y => pB (y ▸ z)) fun a z => (t.mem a z).2), fun a z => ?_⟩
  rcases List.mem_cons.mp z with z | z
  · rw [z]; exact g.h.free hp
  · exact hB a z
theorem rd_lcO {ai : AI} {ag : AG} {t : AT} {e : AE} (hk : ∀ i ∈ ks, i ∈ vs) {Q : VK} (h : rdE T (aLcO ai ag t e vs) σ H Q) : tLc (rdIG T ai) (rdG T ks ag) (rdT T t) (rdE T e) vs σ H Q := by
  obtain ⟨G, F, δ, P, R, h, k⟩ := h
  refine ⟨G, F, δ, _, R, h, fun ds hd J F1 H1 g W => fun DD hD => ?_⟩
  obtain ⟨Gd, Y, w, stb, yy⟩ := W
  have R1 := R.go g
  have hD0 : H DD = none := g.h.free hD
  have Rw := R1.wipe vs
  refine lc_it w (fun i H' => ∃ F' acc accV B, Go F1 H1 F' H' ∧ F' DD = none ∧ H' DD = some (.lst accV) ∧ Owns T F' H' accV acc B ∧ (∀ a ∈ B, H1 a = none ∧ a ≠ DD) ∧ lcGoO ag t e (wipeA δ vs) (ds.drop i) acc P) ⟨F1, [], [], [], (Go.refl g.ex).lay hD, g.ex.free hD, upd_same, .nil, fun a q => (nomatch q), hd⟩
    (fun i H' _ ⟨F', _, _, _, g1, _⟩ => stb F' H' g1) ?_ ?_
  · rintro i x H' H2 hi ⟨F', acc, accV, B, g1, f1, h1, r1, hB, hq⟩ hy
    have R' := Rw.go g1
    obtain ⟨rfl, d, hd, rd⟩ := yy i H' x H2 hi (stb F' H' g1) hy
    have e1 : ds.drop i = d :: ds.drop (i + 1) := by
      obtain ⟨hl, he⟩ := List.getElem?_eq_some_iff.mp hd
      rw [List.drop_eq_getElem_cons hl, he]
    rw [e1] at hq
    unfold lcGoO at hq
    refine ⟨G, F', _, _, d, R', rd F' g1.f g1.ex, hq, fun δ2 q σ2 kp R2 => ⟨wipe_keep hk kp, ?_⟩⟩
    refine ⟨G, F', δ2, _, R2, q, fun b hb F3 H3 g3 => ?_⟩
    have f3 : F3 DD = none := (g3.n DD (by rw [h1]; simp) (nt_of h1)).trans f1
    have h3 : H3 DD = some (.lst accV) := g3.h _ _ h1
    cases b with
    | true =>
      rw [if_pos rfl] at hb
      refine iteT ?_
      refine ⟨G, F3, δ2, _, R2.go g3, hb, fun w hw v F4 H4 g4 r4 => ?_⟩
      split at hw
      · rename_i m hm
        obtain ⟨D0, od, hD0'⟩ := kid_own g4 r4 hm
        have h4 : H4 DD = some (.lst accV) := g4.h _ _ h3
        have f4 : F4 DD = none := (g4.n DD (by rw [h3]; simp) (nt_of h3)).trans f3
        have r4' := (r1.go g3).go g4
        have dB : DD ∉ B := fun z => (hB DD z).2 rfl
        have dD : DD ∉ D0 := fun z => by have := hD0' DD z; rw [h3] at this; cases this
        have rk := r4'.keep (H' := upd H4 DD (.lst (accV ++ [v]))) (Same.refl _) (fun a z => upd_ne fun y => dB (y ▸ z)) fun a z => (r4'.mem a z).2
        have ok := od.keep (H' := upd H4 DD (.lst (accV ++ [v]))) (Same.refl _) (fun a z => upd_ne fun y => dD (y ▸ z)) fun a z => (od.mem a z).2
        obtain ⟨B2, r5, h5⟩ := rk.snoc (N := fun a => H3 a = none) ok hD0' fun a n z => ((r1.go g3).mem a z).1 n
        refine ⟨accV, h4, by rw [r1.length]; exact dSz_lt hw.1, F4, acc ++ [m], accV ++ [v], B2, (g1.trans (g3.trans g4)).side hD f4, f4, upd_same, r5, fun a z => ?_, hw.2⟩
        rcases h5 a z with y | y
        · exact hB a y
        · exact ⟨(g1.h.trans g3.h).free y, fun e => by rw [e, h3] at y; cases y⟩
      · exact hw.elim
    | false =>
      rw [if_neg Bool.false_ne_true] at hb
      refine iteF ?_
      exact ⟨F3, acc, accV, B, g1.trans g3, f3, h3, r1.go g3, hB, hb⟩
  · rintro H' ⟨F', acc, accV, B, g1, f1, h1, r1, hB, hq⟩
    rw [List.drop_length] at hq
    unfold lcGoO at hq
    refine k _ hq _ F' H' (g.trans g1) ⟨DD :: B, .tl h1 f1 (fun z => (hB DD z).2 rfl) r1, fun a q => ?_⟩
    rcases List.mem_cons.mp q with q | q
    · rw [q]; exact hD0
    · exact g.h.free (hB a q).1
theorem e_lcO {elt tg iter : Expr} {ifs : List Expr} {scope : Scope} {own : List (Str × Nat)} {pos : Pos} {ai : AI} {ag : AG} {t : AT} {e : AE} (hc : X.calm = true) (hN : X.N.Nodup) (hi : PI X tg iter (rdIG T ai)) (ok : BlkOk X.N X.env.scope scope own) (hk : ∀ i ∈ ks, i ∈ own.map (·.2))
    (hg : ∀ (s : Shared) (H : Hp) (C : Addr) (cl : List (Str × Addr)) (fp : List Addr), PG (X.blk s H scope (compEnvC scope cl C X.env) fp) tg (rdG T ks ag)) (ht : ∀ (s : Shared) (H : Hp) (C : Addr) (cl : List (Str × Addr)) (fp : List Addr), PTs (X.blk s H scope (compEnvC scope cl C X.env) fp) ifs (rdT T t))
    (he : ∀ (s : Shared) (H : Hp) (C : Addr) (cl : List (Str × Addr)) (fp : List Addr), PE (X.blk s H scope (compEnvC scope cl C X.env) fp) elt (rdE T e)) (hs : ∀ x, foldedSetIterable iter X.env x = pure x := by intro _; rfl) :
    PE X (.ListComp elt [⟨tg, iter, ifs, 0⟩] scope pos) (rdE T (aLcO ai ag t e (own.map (·.2)))) := (pe_lc hc hN hi ok hg ht he hs).mono fun _ _ _ h => rd_lcO hk h
end
/-! ### a clean item is put behind own ones; != -/
def mAppendT : FM := fun m ws P => match m, ws with
  | .tl ms, [.cl d] => ms.length < 1000000 ∧ P (.tl (ms ++ [.cl d])) .non
  | _, _ => False
def itemsT : W → Option (List D)
  | .cl (.lst ds) => some ds
  | .bw m => match m with
    | .fl ds => some ds
    | .tl ms => some (M.toDs ms)
    | _ => none
  | .ow m => match m with
    | .fl ds => some ds
    | .tl ms => some (M.toDs ms)
    | _ => none
  | .fr m => match m with
    | .fl ds => some ds
    | .tl ms => some (M.toDs ms)
    | _ => none
  | _ => none
section
variable {T : Tb} {X : Cx} {c : Nat} {g : List D → Prop}
theorem m_appendT : MutV T rAppend mAppendT := by
  intro G F H v m A xs ws P Q sm ow ra h k
  unfold mAppendT at h
  split at h
  · rename_i ms d
    obtain ⟨p, vs, B, rfl, rfl, ho, hf, pB, r⟩ := own_tl ow
    cases ra with
    | cons r2 t =>
      cases t
      rename_i u
      have rk := r.keep (H' := upd H p (.lst (vs ++ [u]))) (Same.refl _) (fun a z => upd_ne fun y => pB (y ▸ z)) fun a z => (r.mem a z).2
      obtain ⟨B2, r5, h5⟩ := rk.snoc (N := fun _ => False) (.cl r2) (fun a q => nomatch q) fun a n => n.elim
      refine ⟨p, vs, _, rfl, rfl, ho, by rw [r.length]; exact dSz_lt h.1, k _ _ h.2 _ _ (p :: B2) (chg_upd sm List.mem_cons_self hf) (.tl upd_same hf (fun z => (h5 p z).elim pB id) r5) (fun a q => ?_) .non⟩
      rcases List.mem_cons.mp q with q | q
      · rw [q]; exact List.mem_cons_self
      · exact List.mem_cons_of_mem _ ((h5 a q).elim id fun z => z.elim)
  · exact h.elim
theorem RepW.itemsT {G : Gx} {Hs F H : Hp} {v : V} {w : W} {ds : List D} (ex : Same F H) (r : RepW T G Hs F H v w) (h : Vl.itemsT w = some ds) : ∃ a vs, v = .ref a ∧ H a = some (.lst vs) ∧ Reps T H vs ds := by
  have own : ∀ {m : M} {A : List Addr}, Own T F H v m A → (match m with
    | .fl ds => some ds
    | .tl ms => some (M.toDs ms)
    | _ => none) = some ds → ∃ a vs, v = .ref a ∧ H a = some (.lst vs) ∧ Reps T H vs ds := fun {m A} o h => by
    have q := o.rep ex
    cases m with
    | fl ds' => cases h; exact rep_lst q
    | tl ms => cases h; exact rep_lst q
    | cl d => cases h
    | fd _ _ _ => cases h
    | td _ _ _ => cases h
    | ti _ _ => cases h
    | tp _ => cases h
    | nd _ => cases h
  cases w with
  | cl d =>
    have q := Rep.mono ex r
    cases d with
    | lst ds' => cases h; exact rep_lst q
    | _ => cases h
  | bw m => obtain ⟨A, o, _⟩ := r; exact own o h
  | ow m => obtain ⟨A, o⟩ := r; exact own o h
  | fr m => obtain ⟨A, o, _⟩ := r; exact own o h
/-- xs != ys, xs == ys where the data are equal; lists of own things too -/
def dNeT (b : Bool) (g : List D → Prop) (c k : Nat) : W → W → (W → Prop) → Prop := fun x y Q => match Vl.itemsT x, Vl.itemsT y with
  | some ds, some es => ds = es ∧ (∀ d ∈ ds, lvD g c k d) ∧ Q (.cl (.bl b))
  | _, _ => False
theorem prs_T {k : Nat} {H' : Hp} : ∀ {ds : List D} {vs ws : List V}, (∀ d ∈ ds, lvD g c k d) → Reps T H' vs ds → Reps T H' ws ds → Prs (DLev T g c k) vs ws H'
  | [], _, _, _, r1, r2 => by cases r1; cases r2; exact Prs.nil
  | d :: ds, _, _, hd, r1, r2 => by
    cases r1 with
    | cons p1 t1 =>
      cases r2 with
      | cons p2 t2 => exact Prs.cons (lev_of (Same.refl _) (hd d List.mem_cons_self) p1 p2) (prs_T (fun d q => hd d (List.mem_cons_of_mem _ q)) t1 t2)
theorem b_neT {k : Nat} : Bin2 T (rNeG (DLev T g c k)) (dNeT false g c k) := by
  intro G F H F' H' x y u w P Q go rx ry h kk
  unfold dNeT at h
  split at h
  · rename_i ds es h1 h2
    obtain ⟨rfl, hl, q⟩ := h
    obtain ⟨a, vs, rfl, ha, ra⟩ := rx.itemsT go.ex h1
    obtain ⟨b, ws, rfl, hb, rb⟩ := ry.itemsT go.ex h2
    refine ⟨⟨a, b, vs, ws, rfl, rfl, ha, hb, prs_T hl ra rb⟩, fun H2 e => kk _ q _ F' H2 (go.trans ⟨e, Same.refl _, fun a o z => e _ _ (go.ex _ _ z), fun _ _ _ => rfl⟩) (.bl false)⟩
  · exact h.elim
theorem b_eqT {k : Nat} : Bin2 T (rEqG (DList (DLev T g c k))) (dNeT true g c k) := by
  intro G F H F' H' x y u w P Q go rx ry h kk
  unfold dNeT at h
  split at h
  · rename_i ds es h1 h2
    obtain ⟨rfl, hl, q⟩ := h
    obtain ⟨a, vs, rfl, ha, ra⟩ := rx.itemsT go.ex h1
    obtain ⟨b, ws, rfl, hb, rb⟩ := ry.itemsT go.ex h2
    refine ⟨⟨a, b, vs, ws, rfl, rfl, ha, hb, prs_T hl ra rb⟩, fun H2 e => kk _ q _ F' H2 (go.trans ⟨e, Same.refl _, fun a o z => e _ _ (go.ex _ _ z), fun _ _ _ => rfl⟩) (.bl true)⟩
  · exact h.elim
end
end Vl
/-! for x in xs[:h]: x[1].append(d), xs an own list of own tuples -/
namespace Vl
open PySem PySem.Spec PyProof.Rows L2
def appT (d : D) : M → M
  | .tp [a, .fl os] => .tp [a, .fl (os ++ [d])]
  | m => m
def appL (d : D) (k : Nat) (ms : List M) : List M := (ms.take k).map (appT d) ++ ms.drop k
theorem appL_get {d : D} {k : Nat} {ms : List M} : (appL d k ms)[k]? = ms[k]? := by
  unfold appL
  by_cases h : k < ms.length
  · rw [List.getElem?_append_right (by simp; omega), List.length_map, List.length_take, List.getElem?_drop]
    congr 1; omega
  · rw [List.getElem?_eq_none_iff.mpr (by simp; omega), List.getElem?_eq_none_iff.mpr (by omega)]
theorem appL_succ {d : D} {k : Nat} {ms : List M} {m : M} (h : ms[k]? = some m) : appL d (k + 1) ms = (appL d k ms).set k (appT d m) := by
  have hl : k < ms.length := (List.getElem?_eq_some_iff.mp h).1
  unfold appL
  rw [List.take_add_one, h, List.drop_eq_getElem_cons hl]
  simp only [Option.toList_some, List.map_append, List.map_cons, List.map_nil]
  rw [List.set_append_right _ _ (by simp; omega)]
  have : k - (List.map (appT d) (ms.take k)).length = 0 := by simp; omega
  rw [this, List.set_cons_zero, List.append_assoc]
  rfl
theorem appL_zero (d : D) (ms : List M) : appL d 0 ms = ms := by unfold appL; simp
def aAppIn (i j : Nat) (hi : AO) (d : D) : AS := fun E δ => match gt δ i with
  | .ow l (.tl ms) => j < δ.length ∧ hi δ fun h => (∀ k m, k < HT.sIx ms.length ms.length h → ms[k]? = some m → ∃ a os, m = .tp [a, .fl os] ∧ os.length < 1000000) ∧ E.nx ((δ.set j .non).set i (.ow l (.tl (appL d (HT.sIx ms.length ms.length h) ms))))
  | _ => False
section
variable {T : Tb} {X : Cx} {G : Gx} {F H : Hp} {σ : L2.St} {δ : List AV}
theorem RepS.non (R : RepS T G F H σ δ) (j : Nat) : RepS T G F H σ (δ.set j .non) := by
  have at_ : ∀ k, gt (δ.set j .non) k = .non ∨ gt (δ.set j .non) k = gt δ k := fun k => by
    unfold gt
    rw [List.getD_eq_getElem?_getD, List.getD_eq_getElem?_getD, List.getElem?_set]
    split
    · split <;> exact .inl rfl
    · exact .inr rfl
  refine ⟨R.ex, R.fr, R.th, R.lh, R.f0, R.fn, by rw [List.length_set]; exact R.len, fun k => ?_, fun k k' l l' m m' v w A B ne e1 e2 => ?_⟩
  · rcases at_ k with e | e
    · rw [e]; trivial
    · rw [e]; exact R.sl k
  · rcases at_ k with e | e
    · rw [e] at e1; cases e1
    · rcases at_ k' with e' | e'
      · rw [e'] at e2; cases e2
      · rw [e] at e1; rw [e'] at e2
        exact R.dj k k' l l' m m' v w A B ne e1 e2
theorem set_gt {a : AV} {i : Nat} (h : gt δ i = a) (hi : i < δ.length) : δ.set i a = δ := by
  apply List.ext_getElem?
  intro k
  rw [List.getElem?_set]
  split
  · rename_i e
    subst e
    unfold gt at h
    rw [List.getD_eq_getElem?_getD, List.getElem?_eq_getElem hi] at h
    rw [List.getElem?_eq_getElem hi, ← h]
    rfl
  · rfl
variable {i j : Nat} {it oe : Expr} {st : Stmt} {hi : AO} {hiE : Option Expr} {xs : AA} {d : D} {tg : Expr} {p2 pos ps : Pos}
theorem s_appIn (hp : PassesOwn (model X.prog X.w) X.A X.env X.xe) (hc : X.calm = true) (hTK : T.K = X.K) (ij : i ≠ j) (hg : PG X tg (gName j)) (hv : PE X it (tVar i)) (hh : PO X hiE (rdO T hi))
    (hb : PS X st (tDrop (tBM X.K "list" rAppend (tOp (rIx X.K) (tVar j) (tC (.int 1))) (rdA T xs)))) (hx : ∀ δ P, P [.cl d] → xs δ P)
    (hs : ∀ x, foldedSetIterable (.Subscript it (.Slice none hiE none p2) ps) X.env x = pure x := by intro _; rfl) :
    PS X (.For tg (.Subscript it (.Slice none hiE none p2) ps) [st] [] pos) (rdS T (aAppIn i j hi d)) := (ps_for hp hc (pi_list (pe_slice sl_list hv po_none hh)) hg (pss_one hb) hs).mono fun D' σ H h => by
  obtain ⟨G, F, δ, E, R, h, k⟩ := h
  unfold aAppIn at h
  split at h
  rotate_left
  · exact h.elim
  rename_i l ms e
  obtain ⟨v, A, hv, o, os⟩ := R.own e
  obtain ⟨p, vs, B, rfl, rfl, hp, hf, pB, t⟩ := own_tl o
  have hml := t.length
  obtain ⟨hjl, h⟩ := h
  have hil : i < δ.length := gt_lt (by rw [e]; simp)
  refine ⟨.ref p, gs_some hv, G, F, δ, _, R, h, fun hlim hw F1 H1 g => ?_⟩
  obtain ⟨hel, hnx⟩ := hw
  refine ⟨p, vs, rfl, hTK ▸ SqL.of (g.h _ _ hp), fun q hq => ?_⟩
  have e0 : HT.sIx vs.length 0 none = 0 := rfl
  have ec : cutV vs none hlim = vs.take (HT.sIx ms.length ms.length hlim) := by
    unfold cutV
    rw [e0, List.drop_zero, Nat.sub_zero, hml]
  rw [ec]
  generalize HT.sIx ms.length ms.length hlim = n0 at *
  refine ⟨q, rfl, ⟨_, SqL.of upd_same⟩, ?_⟩
  have w := walk_list (K := X.K) (a := q) (xs := vs.take n0)
  have gij : ∀ {a : AV}, gt ((δ.set j .non).set i a) i = a := fun {a} => by rw [gt_set (by rw [List.length_set]; exact hil), if_pos rfl]
  have R1 := (R.go (g.lay (o := .lst (vs.take n0)) hq)).non j
  have o1 := o.go (g.lay (o := .lst (vs.take n0)) hq)
  have qA : q ∉ p :: B := fun z => (o.mem q z).1 (g.h.free hq)
  have gj : gt (δ.set j .non) i = .ow l (.tl ms) := by
    rw [gt_set hjl, if_neg (fun z => ij z.symm)]; exact e
  refine for_it w (fun k σ' H' => ∃ F' A', Same F1 F' ∧ RepS T G F' H' σ' ((δ.set j .non).set i (.ow l (.tl (appL d k ms)))) ∧ gs σ' i = some (.ref p) ∧ H' p = some (.lst vs) ∧ H' q = some (.lst (vs.take n0)) ∧ Own T F' H' (.ref p) (.tl (appL d k ms)) A' ∧ q ∉ A')
    ⟨F1, _, Same.refl _, ?_, hv, (upd_ne fun z => qA (by rw [← z]; exact List.mem_cons_self)).trans (g.h _ _ hp), upd_same, by rw [appL_zero]; exact o1, qA⟩ (fun k σ' H' _ ⟨_, _, _, _, _, _, hq', _⟩ => SqL.of hq') ?_ ?_
  · rw [appL_zero, set_gt gj (by rw [List.length_set]; exact hil)]
    exact R1
  · rintro k x σ' H' H2 hk ⟨F', A', sm, R', e1, hp', hq', o', hqA⟩ ⟨rfl, hy⟩
    have hk0 : k < n0 ∧ k < vs.length := by rw [List.length_take] at hk; omega
    rw [List.getElem?_take, if_pos hk0.1] at hy
    obtain ⟨m, hm⟩ : ∃ m, ms[k]? = some m := ⟨_, List.getElem?_eq_getElem (by omega)⟩
    obtain ⟨a0, os', rfl, hol⟩ := hel k m hk0.1 hm
    obtain ⟨p1, vs1, u, B1, ep, hp1, hl1, hu, S1⟩ := sub_tl o' (appL_get.trans hm)
    cases ep
    rw [hp'] at hp1
    cases hp1
    rw [hy] at hu
    cases hu
    obtain ⟨p3, ws, u2, B2, rfl, hp3, hl3, hu2, S2⟩ := sub_tp (j := 1) S1.ow rfl
    have S := S1.trans S2
    obtain ⟨r, zs, rfl, rfl, hr, hfr, rz⟩ := own_fl S2.ow
    have hjl' : j < σ'.length := by rw [← R'.len, List.length_set, List.length_set]; exact hjl
    show tBM X.K "list" rAppend (tOp (rIx X.K) (tVar j) (tC (.int 1))) (rdA T xs) (σ'.set j (some (.ref p3))) H2 _
    have R2 : RepS T G F' H2 (σ'.set j (some (.ref p3))) ((δ.set j .non).set i (.ow l (.tl (appL d k ms)))) := by
      have := R'.put (i := j) (v := .ref p3) (a := .non) trivial fun _ _ z => nomatch z
      rw [List.set_comm _ _ ij, List.set_set] at this
      exact this
    refine ⟨.ref p3, by rw [List.getElem?_set_self hjl'], ?_⟩
    refine .inr (.inl ⟨p3, ws, 1, .ref r, rfl, rfl, SqT.of hp3, ?_, ?_⟩)
    · unfold atI
      have : ixN ws.length 1 = some 1 := by
        rw [hl3]; rfl
      rw [this]
      exact hu2
    refine ⟨.inl ⟨rfl, _, SqL.of hr⟩, G, F', _, fun ws => ws = [.cl d], R2, hx _ _ rfl, fun ws1 hw1 us F3 H3 g3 ra => ?_⟩
    subst hw1
    have e1' : gs (σ'.set j (some (V.ref p3))) i = some (.ref p) := by
      unfold gs
      rw [List.getD_eq_getElem?_getD, List.getElem?_set_ne (fun z => ij z.symm), ← List.getD_eq_getElem?_getD]
      exact e1
    have S3 := S.go g3
    refine m_append G F3 H3 (.ref r) (.fl os') [r] us [.cl d] (fun k' _ => k' = .fl (os' ++ [d])) _ g3.ex S3.ow ra ⟨hol, rfl⟩ fun k' d' hP z H4 B4 ch o4 hB4 rz4 => ?_
    subst hP
    have o3 := o'.go g3
    have R4 := R2.plc g3 gij e1' o3 S3 ch.ex (Same.refl _) (fun _ _ _ _ => rfl) ch.fr ch.th o4 fun a z => .inl (hB4 a z)
    obtain ⟨A5, o5, hA5⟩ := S3.re (fun _ => False) F3 H4 (.fl (os' ++ [d])) B4 (fun _ n => n.elim) (Same.refl _) (fun _ _ _ _ => rfl) ch.fr o4 fun a z => .inl (hB4 a z)
    have em : (appL d k ms).set k (.tp ([a0, .fl os'].set 1 (.fl (os' ++ [d])))) = appL d (k + 1) ms := (appL_succ (d := d) hm).symm
    have hpr : p ≠ r := fun z => by
      obtain ⟨p9, vs9, C, ep9, rfl, hp9, hf9, hn9, t9⟩ := own_tl o'
      cases ep9
      rw [hp'] at hp9
      cases hp9
      obtain ⟨u9, C9, hu9, ou9, h39, _⟩ := t9.get (appL_get.trans hm)
      rw [hy] at hu9
      cases hu9
      cases Own.det S1.ow ou9
      exact hn9 (h39 p (S2.sub p (by rw [z]; exact List.mem_singleton.mpr rfl)))
    refine ⟨F3, A5, sm.trans g3.f, ?_, e1', (ch.fr p (fun z => hpr (List.mem_singleton.mp z)) (by rw [g3.h _ _ hp']; simp)).trans (g3.h _ _ hp'), (ch.fr q (fun z => hqA (S.sub q z)) (by rw [g3.h _ _ hq']; simp)).trans (g3.h _ _ hq'), ?_, fun z => (hA5 q z).elim hqA id⟩
    · unfold setP at R4
      rw [gij] at R4
      have R5 : RepS T G F3 H4 (σ'.set j (some (.ref p3))) (((δ.set j .non).set i (.ow l (.tl (appL d k ms)))).set i (.ow l (.tl ((appL d k ms).set k (.tp ([a0, .fl os'].set 1 (.fl (os' ++ [d])))))))) := R4
      rw [List.set_set] at R5
      rw [← em]
      exact R5
    · rw [← em]
      exact o5
  · rintro σ' H' ⟨F', A', sm, R', e1, hp', hq', o', hqA⟩
    refine k.nx _ hnx F' H' σ' (g.f.trans sm) ?_
    have : appL d (vs.take n0).length ms = appL d n0 ms := by
      rw [List.length_take, hml]
      by_cases z : n0 ≤ ms.length
      · rw [Nat.min_eq_left z]
      · rw [Nat.min_eq_right (by omega)]
        unfold appL
        rw [List.take_of_length_le (Nat.le_refl _), List.take_of_length_le (by omega), List.drop_of_length_le (Nat.le_refl _), List.drop_of_length_le (by omega)]
    rw [this] at R'
    exact R'
end
end Vl
/-! xs.remove(x), a list of texts -/
namespace Vl
open PySem PySem.Spec PyProof.Rows L2
def eqs (k : Str) : Value → Bool
  | .str n _ => n.cps.toList == k.cps.toList
  | _ => false
theorem cps_ne {a b : Str} (h : a ≠ b) : (a.cps.toList == b.cps.toList) = false := by
  rw [beq_eq_false_iff_ne]
  intro z
  have : a.cps = b.cps := Array.toList_inj.mp z
  cases a; cases b
  exact h (by cases this; rfl)
section
variable {X : Cx} {T : Tb}
def rRemS : V → List V → Hp → VK → Prop := fun x xs H Q => ∃ (l : Addr) (ns : List Str) (k : Str) (j : Nat), x = .ref l ∧ xs = [.str k] ∧ H l = some (.lst (ns.map V.str)) ∧ ns[j]? = some k ∧ (∀ m : Nat, m < j → ns[m]? ≠ some k) ∧ Q .non (upd H l (.lst ((ns.eraseIdx j).map V.str)))
theorem erase_mapS : ∀ (l : List Str) (j : Nat), (l.map V.str).eraseIdx j = (l.eraseIdx j).map V.str
  | [], j => by simp
  | a :: r, 0 => by simp
  | a :: r, j + 1 => by
    have ih := erase_mapS r j
    simp [ih]
theorem mt_removeS : MtM X "list.remove" rRemS := by
  intro pins s σ H x xs v us Q I rx rxs h
  obtain ⟨l, ns, k, j, rfl, rfl, hH, hj, hno, q⟩ := h
  cases rx
  obtain ⟨u, rfl, ru⟩ := rxs.one
  obtain ⟨t, rfl⟩ := ru
  obtain ⟨z, its, n, r, hl, e⟩ := I.lstM hH
  have rl := r.length
  rw [List.length_map] at hl z rl
  have hjn : j < ns.length := (List.getElem?_eq_some_iff.mp hj).1
  have hjl : j < its.toArray.size := by rw [List.size_toArray]; omega
  have get : ∀ m (hm : m < ns.length), ∃ tm, its[m]? = some (.str ns[m] tm) := fun m hm => by
    obtain ⟨u, hu, ru⟩ := r.get (i := m) (x := .str ns[m]) (by rw [List.getElem?_map, List.getElem?_eq_getElem hm]; rfl)
    obtain ⟨tm, rfl⟩ := ru
    exact ⟨tm, hu⟩
  have gives : ∀ y ∈ its, MeetsSeq.EqGives y (.str k t) (eqs k y) := fun y hy => by
    obtain ⟨m, hm⟩ := List.mem_iff_getElem?.mp hy
    have hmn : m < ns.length := by have := (List.getElem?_eq_some_iff.mp hm).1; omega
    obtain ⟨tm, h1⟩ := get m hmn
    rw [hm] at h1
    cases h1
    exact SeqRoads2.EqGives.str ns[m] k tm t
  refine call_meets PySem.F.slot_list_remove ⟨_, e, rfl⟩ PySem.F.entry_list_remove (PySem.F.args_list_remove_2 _ _)
    (MeetsSeq.list_remove l its.toArray n (.str k t) (eqs k) (fun y hy => gives y (by simpa using hy)) j hjl ?_ ?_ (by rw [List.size_toArray]; omega)) ⟨e, ?_⟩
  · obtain ⟨tj, hjt⟩ := get j hjn
    obtain ⟨h1, h2⟩ := List.getElem?_eq_some_iff.mp hjt
    have e0 : ns[j] = k := by rw [List.getElem?_eq_getElem hjn] at hj; exact Option.some.inj hj
    have e1 : its.toArray[j] = .str k tj := by rw [← e0]; simpa using h2
    rw [e1]
    exact beq_self_eq_true _
  · intro m hm hmj
    have hmn : m < ns.length := by omega
    obtain ⟨tm, hmt⟩ := get m hmn
    obtain ⟨h1, h2⟩ := List.getElem?_eq_some_iff.mp hmt
    have e1 : its.toArray[m] = .str ns[m] tm := by simpa using h2
    rw [e1]
    exact cps_ne fun e2 => hno m hmj (by rw [List.getElem?_eq_getElem hmn, e2])
  · have rr := r.eraseIdx j
    rw [erase_mapS] at rr
    refine ⟨.non, _, I.lset (its' := its.eraseIdx j) (t' := s.toks) hH e ?_ rr ?_, rfl, q⟩
    · show its.toArray.eraseIdxIfInBounds j = (its.eraseIdx j).toArray
      rw [List.eraseIdxIfInBounds_toArray]
    · have z2 := len_erase ns j
      rw [List.length_map]
      omega
def mRemoveS : FM := fun m ws P => match m, ws with
  | .fl ds, [.cl (.str k)] => ∃ (ns : List Str) (j : Nat), ds = ns.map .str ∧ ns[j]? = some k ∧ (∀ m : Nat, m < j → ns[m]? ≠ some k) ∧ P (.fl ((ns.eraseIdx j).map .str)) .non
  | _, _ => False
theorem reps_strs {F : Hp} : ∀ {vs : List V} {ns : List Str}, Reps T F vs (ns.map D.str) → vs = ns.map V.str
  | _, [], .nil => rfl
  | _, n :: ns, .cons r t => by rw [rep_str r, reps_strs t]; rfl
theorem reps_of_strs {F : Hp} : ∀ ns : List Str, Reps T F (ns.map V.str) (ns.map D.str)
  | [] => .nil
  | n :: ns => .cons (.str n) (reps_of_strs ns)
theorem m_removeS : MutV T rRemS mRemoveS := by
  intro G F H v m A xs ws P Q sm ow ra h k
  unfold mRemoveS at h
  split at h
  · rename_i ds k0
    obtain ⟨p, vs, rfl, rfl, ho, hf, r⟩ := own_fl ow
    obtain ⟨ns, j, rfl, h1, h2, h⟩ := h
    cases reps_strs r
    cases ra with
    | cons r2 t =>
      cases t
      refine ⟨p, ns, k0, j, rfl, by rw [rep_str r2], ho, h1, h2, ?_⟩
      exact k _ _ h _ _ _ (chg_upd sm List.mem_cons_self hf) (.fl upd_same hf (reps_of_strs _)) (fun _ q => q) .non
  · exact h.elim
end
end Vl
/-! Texts: f-strings, join, split, str(n), int(text). -/
namespace Vl
open PySem PySem.Spec PyProof.Rows L2
/-- a part of an f-string -/
def aFmt (e : AE) : AE := fun δ Q => e δ fun w => match w with
  | .cl (.str y) => y.length ≤ 1000000 ∧ Q (.cl (.str y))
  | .cl (.int i) => i.natAbs.log2 < 1920 ∧ Q (.cl (.str (toString i)))
  | _ => False
def aJs : List AE → Str → List AV → (Str → Prop) → Prop
  | [], acc, _, Q => Q acc
  | e :: es, acc, δ, Q => e δ fun w => match w with
    | .cl (.str y) => (acc ++ y).length ≤ 1000000 ∧ aJs es (acc ++ y) δ Q
    | _ => False
/-- f'..' -/
def aFStr (es : List AE) : AE := fun δ Q => aJs es Str.empty δ fun out => Q (.cl (.str out))
def strsC : List D → Option (List Str)
  | [] => some []
  | .str x :: ds => (strsC ds).map (x :: ·)
  | _ => none
/-- sep.join(e) -/
def aJoin (o : AE) (es : AA) : AE := fun δ Q => o δ fun w => match w with
  | .cl (.str a) => es δ fun ws => match ws with
    | [x] => ∃ ys : List Str, lstC x = some (ys.map .str) ∧ (ys.map (·.length)).sum + ys.length * a.length ≤ 1000000 ∧ Q (.cl (.str (Txt.join a ys)))
    | _ => False
  | _ => False
/-- e.split(sep) -/
def aSplit (o : AE) (es : AA) : AE := fun δ Q => o δ fun w => match w with
  | .cl (.str a) => es δ fun ws => match ws with
    | [.cl (.str b)] => (b.length == 0) = false ∧ a.length + 2 ≤ 1000000 ∧ Q (.fr (.fl ((Txt.split a b).map .str)))
    | _ => False
  | _ => False
def rJoin (K : PySem.W.Frag) : V → List V → Hp → VK → Prop := fun x xs H Q => ∃ a p, ∃ ys : List Str, x = .str a ∧ xs = [.ref p] ∧ (SqL K H p (ys.map V.str) ∨ SqT K H p (ys.map V.str)) ∧ (ys.map (·.length)).sum + ys.length * a.length ≤ 16777216 ∧ Q (.str (Txt.join a ys)) H
def rSplit : V → List V → Hp → VK → Prop := fun x xs H Q => ∃ a b, x = .str a ∧ xs = [.str b] ∧ (b.length == 0) = false ∧ a.length + 2 ≤ sizeLine ∧ rNewStrs (Txt.split a b) H Q
section
variable {T : Tb} {X : Cx} {G : Gx} {F H : Hp} {σ : L2.St} {δ : List AV} {e : Expr} {x o : AE} {xs : AA} {pos : Pos}
theorem e_fmt (he : PE X e (rdE T x)) : PE X (.FormattedValue e (-1) none pos) (rdE T (aFmt x)) := (pe_fmt he).mono fun σ H Q h => by
  obtain ⟨G, F, δ, P, R, h, k⟩ := h
  refine ⟨G, F, δ, _, R, h, fun w hw v F1 H1 g r => ?_⟩
  split at hw
  · exact .inl ⟨_, rep_str r, dSz_line hw.1, k _ hw.2 _ F1 H1 g (.str _)⟩
  · exact .inr ⟨_, rep_int r, hw.1, k _ hw.2 _ F1 H1 g (.str _)⟩
  · exact hw.elim
theorem rd_js : ∀ {xs : List AE} {acc : Str} {F H : Hp} {P : Str → Prop} {Q : Str → Hp → Prop}, RepS T G F H σ δ → aJs xs acc δ P → (∀ out, P out → ∀ F' H', Go F H F' H' → Q out H') → tJs (xs.map (rdE T)) acc σ H Q
  | [], acc, F, H, P, Q, R, h, k => k acc h F H (Go.refl R.ex)
  | x :: xs, acc, F, H, P, Q, R, h, k => by
    show rdE T x σ H _
    refine ⟨G, F, δ, _, R, h, fun w hw v F1 H1 g r => ?_⟩
    split at hw
    · exact ⟨_, rep_str r, dSz_line hw.1, rd_js (R.go g) hw.2 fun out ho F2 H2 g2 => k out ho F2 H2 (g.trans g2)⟩
    · exact hw.elim
theorem j_nil : PJ X [] (([] : List AE).map (rdE T)) := .nil
theorem j_cons {es : List Expr} {xs : List AE} (he : PE X e (rdE T x)) (hr : PJ X es (xs.map (rdE T))) : PJ X (e :: es) ((x :: xs).map (rdE T)) := .cons he hr
theorem e_fstr {v1 v2 : Expr} {rest : List Expr} {xs : List AE} (h : PJ X (v1 :: v2 :: rest) (xs.map (rdE T))) : PE X (.JoinedStr (v1 :: v2 :: rest) pos) (rdE T (aFStr xs)) := (pe_joined h).mono fun σ H Q h => by
  obtain ⟨G, F, δ, P, R, h, k⟩ := h
  exact rd_js R h fun out ho F2 H2 g2 => k _ ho _ F2 H2 g2 (.str _)
theorem e_fstr1 {v : Expr} (he : PE X v (rdE T x)) : PE X (.JoinedStr [v] pos) (rdE T x) := pe_joined1 he
theorem e_join (hTK : T.K = X.K) (h : PE X e (tBM X.K "str" (rJoin X.K) (rdE T o) (rdA T xs))) : PE X e (rdE T (aJoin o xs)) := h.mono fun σ H Q h => by
  obtain ⟨G, F, δ, P, R, h, k⟩ := h
  refine ⟨G, F, δ, _, R, h, fun w hw v F1 H1 g r => ?_⟩
  split at hw
  · rename_i a
    cases rep_str r
    refine ⟨rfl, G, F1, δ, _, R.go g, hw, fun ws hw vs F2 H2 g2 r2 => ?_⟩
    split at hw
    · rename_i x
      obtain ⟨ys, hy, l, q⟩ := hw
      cases r2 with
      | cons r3 t =>
        cases t
        obtain ⟨p, us, rfl, hp, rr⟩ := (RepA.toW (Hs := H2) r3).lst g2.ex hy
        rw [reps_strs rr, hTK] at hp
        exact ⟨a, p, ys, rfl, rfl, .inl hp, by omega, k _ q _ F2 H2 (g.trans g2) (.str _)⟩
    · exact hw.elim
  · exact hw.elim
theorem e_split (h : PE X e (tBM X.K "str" rSplit (rdE T o) (rdA T xs))) : PE X e (rdE T (aSplit o xs)) := h.mono fun σ H Q h => by
  obtain ⟨G, F, δ, P, R, h, k⟩ := h
  refine ⟨G, F, δ, _, R, h, fun w hw v F1 H1 g r => ?_⟩
  split at hw
  · rename_i a
    cases rep_str r
    refine ⟨rfl, G, F1, δ, _, R.go g, hw, fun ws hw vs F2 H2 g2 r2 => ?_⟩
    split at hw
    · rename_i b
      obtain ⟨hb, l, q⟩ := hw
      cases r2 with
      | cons r3 t =>
        cases t
        refine ⟨a, b, rfl, by rw [rep_str r3], hb, dSz_line l, fun p hp => ?_⟩
        exact new_list (g.trans g2) (reps_of_strs _) q k hp
    · exact hw.elim
  · exact hw.elim
end
/-! ### str(n), int(text) -/
def fStrI : List W → (W → Prop) → Prop := one fun w Q => match w with
  | .cl (.int i) => i.natAbs.log2 < 1920 ∧ Q (.cl (.str (toString i)))
  | _ => False
def fIntS : List W → (W → Prop) → Prop := one fun w Q => match w with
  | .cl (.str a) => ∃ n, PySem.intText? a = some n ∧ a.length ≤ 640 ∧ Q (.cl (.int n))
  | _ => False
theorem c_strI {T : Tb} : CallV T (fun xs H Q => ∃ i, xs = [.int i] ∧ i.natAbs.log2 < 1920 ∧ Q (.str (toString i)) H) fStrI := by
  intro G F H F' H' xs ws P Q g r h k
  obtain ⟨x, w, rfl, rfl, rx, h⟩ := one_inv h r
  split at h
  · exact ⟨_, by rw [rep_int rx], h.1, k _ h.2 _ _ _ g (.str _)⟩
  · exact h.elim
theorem c_intS {T : Tb} : CallV T (fun xs H Q => ∃ a n, xs = [.str a] ∧ PySem.intText? a = some n ∧ a.length ≤ 640 ∧ Q (.int n) H) fIntS := by
  intro G F H F' H' xs ws P Q g r h k
  obtain ⟨x, w, rfl, rfl, rx, h⟩ := one_inv h r
  split at h
  · obtain ⟨n, h1, h2, q⟩ := h
    exact ⟨_, n, by rw [rep_str rx], h1, h2, k _ q _ _ _ g (.int _)⟩
  · exact h.elim
/-! ### the signs of a text; c in a text; x[i] of a text; what is never reached -/
def signsD (z : Str) : List D := z.cps.toList.map fun c => .str ⟨#[c]⟩
def iStrA (a : AE) : AI := fun δ Q => a δ fun w => match w with
  | .cl (.str z) => Q (signsD z)
  | _ => False
def dInC (neg : Bool) : W → W → (W → Prop) → Prop := fun x y Q => match x, y with
  | .cl (.str a), .cl (.str z) => ∃ c : Nat, a = ⟨#[c]⟩ ∧ Q (.cl (.bl (if neg then !decide (c ∈ z.cps.toList) else decide (c ∈ z.cps.toList))))
  | _, _ => False
def dIxC : W → W → (W → Prop) → Prop := fun x y Q => match x, y with
  | .cl (.str z), .cl (.int i) => ∃ c : Nat, z.length ≤ 1000000 ∧ atI z.cps.toList i = some c ∧ Q (.cl (.str ⟨#[c]⟩))
  | _, _ => False
def aNever : AS := fun _ _ => False
def rNotInC : R2 := fun x y H Q => ∃ (c : Nat) (z : Str), x = .str ⟨#[c]⟩ ∧ y = .str z ∧ Q (.bl (!decide (c ∈ z.cps.toList))) H
section
variable {T : Tb} {X : Cx} {e tg : Expr} {x : AE} {st : Stmt}
theorem i_strA (he : PE X e (rdE T x)) : PI X tg e (rdI T (iStrA x)) := (pi_str he).mono fun σ H Q h => by
  obtain ⟨G, F, δ, P, R, h, k⟩ := h
  refine ⟨G, F, δ, _, R, h, fun w hw v F1 H1 g r => ?_⟩
  split at hw
  · rename_i z
    refine ⟨z, rep_str r, k _ hw _ F1 H1 g ?_⟩
    have hl : (signsD z).length = z.cps.size := by unfold signsD; rw [List.length_map, Array.length_toList]
    refine ⟨_, _, hl ▸ walk_str, fun _ _ _ _ _ _ => trivial, fun i H x H' hi _ y => ⟨y.1, ?_⟩⟩
    obtain ⟨c, hc, rfl⟩ := y.2
    refine ⟨.str ⟨#[c]⟩, ?_, fun F' _ _ => .str _⟩
    unfold signsD
    rw [List.getElem?_map, Array.getElem?_toList, hc]
    rfl
  · exact hw.elim
theorem b_notInC : Bin2 T rNotInC (dInC true) := by
  intro G F H F' H' x y u w P Q go rx ry h k
  unfold dInC at h
  split at h
  · obtain ⟨c, rfl, q⟩ := h
    exact ⟨c, _, rep_str rx, rep_str ry, k _ q _ _ _ go (.bl _)⟩
  · exact h.elim
theorem op_notInC : OpR X (compareOp .NotIn) rNotInC := op_notIn_sign
theorem b_ixC : Bin2 T rIxS dIxC := by
  intro G F H F' H' x y u w P Q go rx ry h k
  unfold dIxC at h
  split at h
  · obtain ⟨c, l, h1, q⟩ := h
    exact ⟨_, _, c, rep_str rx, rep_int ry, dSz_line l, h1, k _ q _ _ _ go (.str _)⟩
  · exact h.elim
theorem e_ixC {a b : Expr} {y : AE} {pos : Pos} (ha : PE X a (rdE T x)) (hb : PE X b (rdE T y)) (hs : PlainIx b) : PE X (.Subscript a b pos) (rdE T (aBin dIxC x y)) := (pe_ix ix_str ha hb hs).mono fun _ _ _ h => rd_bin b_ixC h
theorem s_never : PS X st (rdS T aNever) := ⟨fun pins s σ H D I h => by
  obtain ⟨G, F, δ, E, R, h, k⟩ := h
  exact h.elim⟩
end
/-! ### x op y, x with an effect -/
def aBinXL (f : W → W → (W → Prop) → Prop) (a : AX) (b : AE) : AX := fun δ Q => a δ fun w δ' => match w with
  | .cl d => b δ' fun z => f (.cl d) z fun r => Q r δ'
  | _ => False
section
variable {T : Tb} {X : Cx} {xx : AX} {y : AE} {pos : Pos} {σ : L2.St} {H : Hp}
theorem rd_binXL {r : R2} {f : W → W → (W → Prop) → Prop} (hf : Bin2 T r f) {Q : VK} (h : rdX T (aBinXL f xx y) σ H Q) : tOp r (rdX T xx) (rdE T y) σ H Q := by
  obtain ⟨G, F, δ, P, R, h, k⟩ := h
  refine ⟨G, F, δ, _, R, h, fun w δ' hw v F1 H1 sF R1 r1 ap => ?_⟩
  split at hw
  · rename_i d
    exact ⟨G, F1, δ', _, R1, hw, fun z hz u F2 H2 g r2 => hf G F1 H1 F2 H2 v u (.cl d) z _ Q g (Rep.mono g.f r1) r2 hz fun y hy v' F4 H4 g4 r4 => k y δ' hy v' F4 H4 (sF.trans g4.f) (R1.go g4) (R1.freshW r4) (R1.apartW g4 r4)⟩
  · exact hw.elim
theorem x_cmpL {op : CmpOp} {a b : Expr} {r : R2} {f : W → W → (W → Prop) → Prop} (ho : OpR X (compareOp op) r) (hf : Bin2 T r f) (ha : PE X a (rdX T xx)) (hb : PE X b (rdE T y)) (hm : behindInMarks op b = false) : PE X (.Compare a [op] [b] pos) (rdX T (aBinXL f xx y)) :=
  (pe_cmpR ho ha hb hm).mono fun _ _ _ h => rd_binXL hf h
theorem tx_cmpL {op : CmpOp} {a b : Expr} {r : R2} {f : W → W → (W → Prop) → Prop} (ho : OpR X (compareOp op) r) (hf : Bin2 T r f) (ha : PE X a (rdX T xx)) (hb : PE X b (rdE T y)) (hm : behindInMarks op b = false) : PT X (.Compare a [op] [b] pos) (rdTX T (aBX (aBinXL f xx y))) :=
  (pt_cmpR ho ha hb hm).mono fun σ H Q h => by
    obtain ⟨G, F, δ, P, R, h, k⟩ := h
    refine rd_binXL hf ⟨G, F, δ, _, R, h, fun w δ' hw v F1 H1 sF R' r ap => ?_⟩
    split at hw
    · exact ⟨_, rep_bl r, k _ _ hw _ _ sF R'⟩
    · exact hw.elim
end
end Vl
/-! Numbers as words. -/
namespace Vl
open PySem PySem.Spec PyProof.Rows L2
def numS (n : Int) : Str := Str.ofString (toString n)
theorem numS_tl {n : Int} (h : 0 ≤ n) : (numS n).cps.toList = TL.numL n.toNat := by
  obtain ⟨m, rfl⟩ := Int.eq_ofNat_of_zero_le h
  exact TL.tl_num m
theorem numS_len {n : Int} (h : 0 ≤ n) (h1 : n < 1000000000) : (numS n).length ≤ 9 := by
  have e : (numS n).length = (numS n).cps.toList.length := by
    show (numS n).cps.size = _
    rw [Array.length_toList]
  rw [e, numS_tl h]
  exact TL.numL_len (by decide) (by omega)
theorem numS_ne {n : Int} (h : 0 ≤ n) : (numS n).cps.toList ≠ [] := by
  rw [numS_tl h]
  exact TL.numL_ne _
/-- no leading zero -/
theorem numL_head : ∀ (n : Nat), 10 ≤ n → ∃ c r, TL.numL n = c :: r ∧ c ≠ 48 := by
  intro n
  induction n using Nat.strongRecOn with
  | _ n ih =>
    intro h
    rw [TL.numL_step h]
    by_cases q : n / 10 < 10
    · rw [TL.numL_lt q]
      exact ⟨_, _, rfl, by omega⟩
    · obtain ⟨c, r, e, hc⟩ := ih (n / 10) (by omega) (by omega)
      rw [e]
      exact ⟨c, _, rfl, hc⟩
theorem numS_head {n : Int} (h : 0 ≤ n) (h1 : 1 < (numS n).length) : ∃ c r, (numS n).cps.toList = c :: r ∧ c ≠ 48 := by
  have e : (numS n).length = (numS n).cps.toList.length := by
    show (numS n).cps.size = _
    rw [Array.length_toList]
  rw [e, numS_tl h] at h1
  rw [numS_tl h]
  by_cases q : n.toNat < 10
  · rw [TL.numL_lt q] at h1
    simp at h1
  · exact numL_head _ (by omega)
theorem numS_digit {n : Int} (h : 0 ≤ n) : ∀ c ∈ (numS n).cps.toList, 48 ≤ c ∧ c ≤ 57 := by
  rw [numS_tl h]
  exact TL.numL_digits _
theorem numS_int {n : Int} (h : 0 ≤ n) (h1 : n < 1000000000) : intText? (numS n) = some n := by
  obtain ⟨m, rfl⟩ := Int.eq_ofNat_of_zero_le h
  exact TL.int_num (Nat.le_trans (TL.numL_len (k := 9) (by decide) (by omega)) (by decide))
theorem numS_free {n : Int} (h : 0 ≤ n) {s : Nat} (hs : s < 48 ∨ 57 < s) : s ∉ (numS n).cps.toList := by
  rw [numS_tl h]
  exact TL.numL_free hs
end Vl
/-! Dicts with nested keys: q in d, d[q] = True, del d[q], list(d), {}. -/
namespace Vl
open PySem PySem.Spec PyProof.Rows L2
def ndW : W → Option (List Q4)
  | .cl (.nd ks) => some ks
  | .bw (.nd ks) => some ks
  | .ow (.nd ks) => some ks
  | _ => none
def qD : D → Option Q4
  | .tup [.tup [.int a, .int i], .tup [.int b, .int j]] => some ((a, i), (b, j))
  | _ => none
def qO (w : W) : Option Q4 := (clW w).bind qD
theorem qD_inv {d : D} {q : Q4} (h : qD d = some q) : d = nkD q := by
  unfold qD at h
  split at h
  · cases h; rfl
  · cases h
def dInN (neg : Bool) : W → W → (W → Prop) → Prop := fun kw w Q => match kw, ndW w with
  | .cl d, some ks => match qD d with
    | some q => Q (.cl (.bl (if neg then !decide (q ∈ ks) else decide (q ∈ ks))))
    | none => False
  | _, _ => False
def aNPut (pl : AP) (ky e : AE) : AS := fun E δ => e δ fun w => pl δ fun i c k => ky δ fun z => match w, k, z with
  | .cl (.bl true), .nd ks, .cl d => match qD d with
    | some q => (q ∉ ks ∧ ks.length < 1000000) ∧ E.nx (setP δ i (c (.nd (ks ++ [q]))))
    | none => False
  | _, _, _ => False
def delQ (ks : List Q4) (q : Q4) : List Q4 := ks.filter fun x => decide (x ≠ q)
def aNDel (pl : AP) (ky : AE) : AS := fun E δ => pl δ fun i c k => ky δ fun z => match k, z with
  | .nd ks, .cl d => match qD d with
    | some q => q ∈ ks ∧ E.nx (setP δ i (c (.nd (delQ ks q))))
    | none => False
  | _, _ => False
def aDNewN : AE := fun _ Q => Q (.fr (.nd []))
def fListN : List W → (W → Prop) → Prop := one fun w Q => match ndW w with
  | some ks => Q (.fr (.fl (ks.map nkD)))
  | none => False
section
variable {T : Tb} {G : Gx} {Hs F H F' H' : Hp} {v : V} {w : W} {ks : List Q4} {q : Q4} {b : Addr} {xs : List (Q4 × Addr)}
theorem keyAt_of (e : Same F H) (r : Rep T F (.ref b) (nkD q)) : KeyAt H q b := by
  obtain ⟨a, vs, hb, h0, rr⟩ := rep_tup r
  cases hb
  cases rr with
  | cons r1 rr =>
    cases rr with
    | cons r2 rr =>
      cases rr
      obtain ⟨b1, vs1, rfl, h1, s1⟩ := rep_tup r1
      obtain ⟨b2, vs2, rfl, h2, s2⟩ := rep_tup r2
      have e1 := reps_ints (ns := [q.1.1, q.1.2]) s1
      have e2 := reps_ints (ns := [q.2.1, q.2.2]) s2
      subst e1 e2
      exact ⟨b1, b2, e _ _ h0, e _ _ h1, e _ _ h2⟩
theorem keysAt : ∀ {xs : List (Q4 × Addr)}, Same F H → Reps T F (xs.map fun x => V.ref x.2) (xs.map fun x => nkD x.1) → ∀ x ∈ xs, KeyAt H x.1 x.2
  | [], _, _ => fun x h => nomatch h
  | y :: ys, e, r => fun x h => by
    cases r with
    | cons r1 t =>
      rcases List.mem_cons.mp h with z | z
      · rw [z]; exact keyAt_of e r1
      · exact keysAt e t x z
theorem reps_filter (p : Q4 × Addr → Bool) : ∀ {xs : List (Q4 × Addr)}, Reps T F (xs.map fun x => V.ref x.2) (xs.map fun x => nkD x.1) → Reps T F ((xs.filter p).map fun x => V.ref x.2) ((xs.filter p).map fun x => nkD x.1)
  | [], _ => .nil
  | y :: ys, r => by
    cases r with
    | cons r1 t =>
      rw [List.filter_cons]
      split
      · exact .cons r1 (reps_filter p t)
      · exact reps_filter p t
theorem RepW.nd (e : Same F H) (h : RepW T G Hs F H v w) (k : ndW w = some ks) : ∃ p xs, v = .ref p ∧ ks = xs.map (·.1) ∧ NDict T.pr T.wd H p xs ∧ Reps T F (xs.map fun x => V.ref x.2) (xs.map fun x => nkD x.1) := by
  unfold ndW at k
  split at k
  · cases k
    cases h with
    | nd q h r => exact ⟨_, _, rfl, q, ⟨e _ _ h, keysAt e r⟩, r⟩
  · cases k
    obtain ⟨A, o, _⟩ := h
    obtain ⟨p, xs, rfl, _, q, h, _, r⟩ := own_nd o
    exact ⟨_, _, rfl, q, ⟨h, keysAt e r⟩, r⟩
  · cases k
    obtain ⟨A, o⟩ := h
    obtain ⟨p, xs, rfl, _, q, h, _, r⟩ := own_nd o
    exact ⟨_, _, rfl, q, ⟨h, keysAt e r⟩, r⟩
  · cases k
theorem b_inN {neg : Bool} : Bin2 T (rInN T.pr T.wd neg) (dInN neg) := by
  intro G F H F' H' x y u w P Q go rx ry h k
  unfold dInN at h
  split at h
  · rename_i d ks hw
    split at h
    · rename_i q hq
      obtain ⟨p, xs, rfl, rfl, nd, r⟩ := ry.nd go.ex hw
      have rx : Rep T F' x d := rx
      rw [qD_inv hq] at rx
      obtain ⟨b, vs, rfl, _, _⟩ := rep_tup (show Rep T F' x (.tup _) from rx)
      exact ⟨b, p, q, xs, rfl, rfl, nd, keyAt_of go.ex rx, k _ h _ _ _ go (.bl _)⟩
    · exact h.elim
  · exact h.elim
variable {X : Cx} {o ki e : Expr} {pl : AP} {kk x : AE} {pos pos' tpos : Pos}
theorem s_nput (hP : T.pr = X.prog) (hw0 : T.wd = X.w) (hu : X.A.units + 64 < cLine) (ho : PE X o (rdP T pl)) (hi : PE X ki (rdE T kk)) (hv : PE X e (rdE T x)) (hs : swapsWith e (some (.Subscript o ki pos')) pos.line X.env = pure false := by rfl) :
    PS X (.Assign [.Subscript o ki pos'] e pos) (rdS T (aNPut pl kk x)) := (ps_nput hu ho hi hv hs).mono fun D' σ H h => by
  obtain ⟨G, F, δ, E, R, h, k⟩ := h
  refine ⟨G, F, δ, _, R, h, fun w hw y F1 H1 g r1 => ?_⟩
  refine ⟨G, F1, δ, _, R.go g, hw, fun i c kt hw2 F2 H2 g2 l m v A u B e1 e2 ow S => ?_⟩
  refine ⟨G, F2, δ, _, R.go (g.trans g2), hw2, fun z hz kv F3 H3 g3 r3 => ?_⟩
  clear hw hw2
  split at hz
  · rename_i ks d
    split at hz
    · rename_i q hq
      obtain ⟨⟨hn, hl⟩, hz⟩ := hz
      have gg := (g.trans g2).trans g3
      have S3 := S.go g3
      have R3 := R.go gg
      obtain ⟨p, xs, rfl, rfl, rfl, hp, hf, rr⟩ := own_nd S3.ow
      have rk : Rep T F3 kv d := r3
      rw [qD_inv hq] at rk
      obtain ⟨b, vs, rfl, _, _⟩ := rep_tup (show Rep T F3 kv (.tup _) from rk)
      have ex := R3.ex
      refine ⟨p, b, q, xs, rep_bl r1, rfl, rfl, ⟨hP ▸ hw0 ▸ hp, keysAt ex rr⟩, keyAt_of ex rk, hn, by simpa using hl, ?_⟩
      have e3 : DNO X.prog X.w p (xs ++ [(q, b)]) = DNO T.pr T.wd p (xs ++ [(q, b)]) := by rw [hP, hw0]
      rw [e3]
      have ch : Chg F3 H3 [p] (upd H3 p (DNO T.pr T.wd p (xs ++ [(q, b)]))) := chg_upd ex List.mem_cons_self hf
      refine k.nx _ hz F3 _ σ gg.f (R.plc gg e1 e2 (ow.go g3) S3 ch.ex (Same.refl _) (fun _ _ _ _ => rfl) ch.fr ch.th (.nd (xs := xs ++ [(q, b)]) ?_ upd_same hf ?_) fun a q => .inl q)
      · rw [List.map_append]; rfl
      · rw [List.map_append, List.map_append]
        exact rr.append (.cons rk .nil)
    · exact hz.elim
  · exact hz.elim
theorem s_ndel (hP : T.pr = X.prog) (hw0 : T.wd = X.w) (hu : X.A.units + 64 < cLine) (ho : PE X o (rdP T pl)) (hi : PE X ki (rdE T kk)) :
    PS X (.Delete [.Subscript o ki tpos] pos) (rdS T (aNDel pl kk)) := (ps_ndel hu ho hi).mono fun D' σ H h => by
  obtain ⟨G, F, δ, E, R, h, k⟩ := h
  refine ⟨G, F, δ, _, R, h, fun i c kt hw2 F2 H2 g2 l m v A u B e1 e2 ow S => ?_⟩
  refine ⟨G, F2, δ, _, R.go g2, hw2, fun z hz kv F3 H3 g3 r3 => ?_⟩
  clear hw2
  split at hz
  · rename_i ks d
    split at hz
    · rename_i q hq
      obtain ⟨hn, hz⟩ := hz
      have gg := g2.trans g3
      have S3 := S.go g3
      have R3 := R.go gg
      obtain ⟨p, xs, rfl, rfl, rfl, hp, hf, rr⟩ := own_nd S3.ow
      have rk : Rep T F3 kv d := r3
      rw [qD_inv hq] at rk
      obtain ⟨b, vs, rfl, _, _⟩ := rep_tup (show Rep T F3 kv (.tup _) from rk)
      have ex := R3.ex
      refine ⟨p, b, q, xs, rfl, rfl, ⟨hP ▸ hw0 ▸ hp, keysAt ex rr⟩, keyAt_of ex rk, hn, ?_⟩
      have e3 : DNO X.prog X.w p (xs.filter fun x => decide (x.1 ≠ q)) = DNO T.pr T.wd p (xs.filter fun x => decide (x.1 ≠ q)) := by rw [hP, hw0]
      rw [e3]
      have ch : Chg F3 H3 [p] (upd H3 p (DNO T.pr T.wd p (xs.filter fun x => decide (x.1 ≠ q)))) := chg_upd ex List.mem_cons_self hf
      refine k.nx _ hz F3 _ σ gg.f (R.plc gg e1 e2 (ow.go g3) S3 ch.ex (Same.refl _) (fun _ _ _ _ => rfl) ch.fr ch.th (.nd (xs := xs.filter fun x => decide (x.1 ≠ q)) ?_ upd_same hf (reps_filter _ rr)) fun a q => .inl q)
      unfold delQ
      rw [List.filter_map]
      rfl
    · exact hz.elim
  · exact hz.elim
theorem e_dnewN (hP : T.pr = X.prog) (hw0 : T.wd = X.w) : PE X (.Dict [] [] pos) (rdE T aDNewN) := pe_dnewN.mono fun σ H Q h => by
  obtain ⟨G, F, δ, P, R, h, k⟩ := h
  intro p hp
  rw [← hP, ← hw0]
  exact k _ h _ F _ ((Go.refl R.ex).lay hp) ⟨[p], .nd (xs := []) rfl upd_same (R.ex.free hp) .nil, fun a q => by rw [List.mem_singleton.mp q]; exact hp⟩
theorem c_listN (hP : T.pr = X.prog) (hw0 : T.wd = X.w) : CallV T (fun xs H Q => ∃ d ys, xs = [V.ref d] ∧ NDict X.prog X.w H d ys ∧ ∀ p, H p = none → Q (.ref p) (upd H p (.lst (ys.map fun y => V.ref y.2)))) fListN := by
  intro G F H F' H' xs ws P Q g r h k
  obtain ⟨x, w, rfl, rfl, rx, h⟩ := one_inv h r
  split at h
  · rename_i ks hw
    obtain ⟨p, ys, rfl, rfl, nd, rr⟩ := rx.nd g.ex hw
    refine ⟨p, ys, rfl, hP ▸ hw0 ▸ nd, fun a ha => ?_⟩
    refine new_list g (ds := ys.map fun y => nkD y.1) rr ?_ k ha
    rw [List.map_map] at h
    exact h
  · exact h.elim
end
/-! ### {k: v} with a tuple as key -/
def tDispT (tk tv : TE) : TE := fun σ H Q => ∀ p, H p = none → tk σ (upd H p (.dT [])) fun x H1 => tv σ H1 fun y H2 => H2 p = some (.dT []) ∧ ∃ b kk, x = .ref b ∧ H2 b = some (.tup (kk.map kV)) ∧ Q (.ref p) (upd H2 p (.dT [(kk, y)]))
theorem pe_dispT {X : Cx} {pos : Pos} {k v : Expr} {tk tv : TE} (hu : X.A.units + 64 < cLine) (hk : PE X k tk) (hv : PE X v tv) : PE X (.Dict [some k] [v] pos) (tDispT tk tv) := by
  refine ⟨fun pins s σ H Q I q => ?_⟩
  have hn := I.hok.fresh (Nat.le_refl s.heap.objs.size)
  have I1 := I.laid (a := s.heap.objs.size) (o := .dT []) (h' := s.heap.push { cls := .type "dict", data := .dict #[] }) (t' := s.toks) (fun _ _ q => Heap.get?_push_of_some _ q) (Nat.le_refl _) (dt_empty s.heap I.big)
  refine wpAny_Dict_any rfl rfl (fun z => nomatch z) (by show 1 ≤ 15; decide) ?_
  refine pairTrees_cons_walk (thn (hk.run pins _ σ _ _ I1 (q _ hn)) fun u s1 ⟨x, H1, I1, rx, q1⟩ => thn (hv.run pins s1 σ H1 _ I1 q1) fun w2 s2 ⟨y, H2, I2, ry, hp, b, kk, ex, hb, q2⟩ => ?_)
  subst ex
  cases rx
  refine pairTrees_nil_walk ?_
  obtain ⟨z, hd, xs, rel, dd⟩ := dt_of I2.hok hp
  cases rel
  show wpAny _ _ (forIn [_] _ _) _ _ _
  rw [List.forIn_cons]
  refine wpAny_bind (wpAny_bind (wpAny_dictSet_heap (hsz := Nat.zero_le _) (show (tupleKind (mixKind X.prog X.w)).room X.A from (by show X.A.units < cLine; omega)) (key_of I2.hok hb) dd fun h' dd' sb => ?_))
  refine wpAny_pure (wpAny_pure ?_)
  obtain ⟨qo, es, ep, hq, h2, h3, h4, _, h5⟩ := dd'
  refine ⟨.ref s.heap.objs.size, _, d_write (ob := .dT [(kk, y)]) I2 (by rw [hp]; exact True.intro) sb ⟨qo, hq⟩ (show _ ≤ sizeLine ∧ _ from ⟨by show 1 ≤ sizeLine; decide, hd, _, .cons ⟨rfl, ?_, ry⟩ .nil, qo, es, ep, hq, h2, h3, h4, h5⟩), rfl, q2⟩
  rw [upd_ne (ne_of hb hp (fun z => nomatch z))]
  exact hb
def aDispT (ky e : AE) : AE := fun δ Q => ky δ fun kw => e δ fun vw => match kw, clW vw with
  | .cl kd, some d => match keyO true kd with
    | some key => Q (.fr (.fd true [key] [d]))
    | none => False
  | _, _ => False
/-- (x, y), y with an effect -/
def aTupX (a : AE) (b : AX) : AX := fun δ Q => a δ fun u => b δ fun w δ' => match u, clW w with
  | .cl x, some y => Q (.cl (.tup [x, y])) δ'
  | _, _ => False
section
variable {T : Tb} {X : Cx} {k v : Expr} {kk x : AE} {yy : AX} {pos : Pos}
theorem e_dispT (hu : X.A.units + 64 < cLine) (hk : PE X k (rdE T kk)) (hv : PE X v (rdE T x)) : PE X (.Dict [some k] [v] pos) (rdE T (aDispT kk x)) := (pe_dispT hu hk hv).mono fun σ H Q h => by
  obtain ⟨G, F, δ, P, R, h, k⟩ := h
  intro p hp
  have g0 : Go F H F (upd H p (.dT [])) := (Go.refl R.ex).lay hp
  refine ⟨G, F, δ, _, R.go g0, h, fun kw hkw x F1 H1 g1 r1 => ?_⟩
  refine ⟨G, F1, δ, _, (R.go g0).go g1, hkw, fun vw hvw y F2 H2 g2 r2 => ?_⟩
  split at hvw
  · rename_i kd d hd
    split at hvw
    · rename_i key hkey
      obtain ⟨F3, g3, rd⟩ := clW_rep g2 r2 hd
      have gg := g1.trans g3
      have hp2 : H2 p = some (.dT []) := gg.h _ _ upd_same
      have rk : Rep T F3 x kd := Rep.mono g3.f r1
      have fp : F3 p = none := by rw [gg.n p (by rw [upd_same]; simp) (nt_of upd_same)]; exact R.ex.free hp
      unfold keyO at hkey
      split at hkey
      · obtain ⟨b, vs', rfl, hb, rr⟩ := rep_tup rk
        have ev := keysF_rep hkey rr
        subst ev
        refine ⟨hp2, b, key, rfl, gg.ex _ _ hb, k _ hvw _ F3 _ ((g0.trans gg).side hp fp) ⟨[p], .fd upd_same fp ⟨List.nodup_cons.mpr ⟨List.not_mem_nil, List.nodup_nil⟩, [(key, y)], rfl, rfl, rfl⟩ (.cons rd .nil), fun a q => ?_⟩⟩
        rw [List.mem_singleton.mp q]; exact hp
      · cases hkey
      · contradiction
    · exact hvw.elim
  · exact hvw.elim
theorem x_tup2 {x1} {a b : Expr} (ha : PE X a (rdE T x)) (hb : PE X b (rdX T yy)) (hs1 : starEach [a, b] X.env = (false, eval a X.env) :: starEach [b] X.env := by rfl) (hs2 : starEach [b] X.env = (false, eval b X.env) :: starEach [] X.env := by rfl) :
    PE X (.Tuple [a, b] x1 pos) (rdX T (aTupX x yy)) := (pe_tup (pa_cons ha (pa_cons hb pa_nil hs2) hs1)).mono fun σ H Q h => by
  obtain ⟨G, F, δ, P, R, h, k⟩ := h
  refine ⟨G, F, δ, _, R, h, fun u hu v F1 H1 g r => ?_⟩
  refine ⟨G, F1, δ, _, R.go g, hu, fun w δ' hw y F2 H2 sF R2 r2 ap => ?_⟩
  split at hw
  · rename_i d e hd
    obtain ⟨F3, s3, R3, rd⟩ := R2.clean r2 ap hd
    have r1 : Rep T F3 v d := (show Rep T F1 v d from r).mono (sF.trans s3)
    refine ⟨by show 2 ≤ sizeLine; decide, fun p hp => ?_⟩
    have gn : Go F3 H2 (upd F3 p (.tup [v, y])) (upd H2 p (.tup [v, y])) := (Go.refl R3.ex).new hp
    have su : Same F3 (upd F3 p (.tup [v, y])) := Same.updN (R3.ex.free hp)
    exact k _ _ hw _ _ _ ((g.f.trans (sF.trans s3)).trans su) (R3.go gn) (.tup upd_same (.cons (r1.mono su) (.cons (rd.mono su) .nil))) fun _ _ _ _ _ _ _ e => nomatch e
  · exact hw.elim
end
end Vl
set_option maxHeartbeats 2000000
local macro_rules | `(tactic| walk_at "vs") => `(tactic| simp only [Vl.aSeq, Vl.aFor_eq, Vl.aIf, Vl.aB, Vl.aBin, Vl.aUn, Vl.aV, Vl.slotW, Vl.gt_z, Vl.gt_s, Vl.aCB, Vl.aCall, Vl.aCons, Vl.aNil, Vl.argW, Vl.dLt_eq, Vl.dLe_eq, Vl.dGt_eq, Vl.dGe_eq, Vl.dI0, Vl.dI, Vl.dAdd, Vl.dSub_eq, Vl.dMul, Vl.dDiv_eq, Vl.dMod_eq, Vl.dPow_eq, Vl.dShl_eq, Vl.dNeg, Vl.dNot, Vl.dIsN, Vl.dNotN, Vl.dEq, Vl.dNe, Vl.dIn, Vl.dIx, Vl.fLen_lst, Vl.fLen_tup, Vl.fLen_ow, Vl.fLen_bw, Vl.fLen_scr, Vl.fLen_str, Vl.fInt_int, Vl.fInt_bl, Vl.fAbs_int, Vl.fMax_int, Vl.fMin_int, Vl.fGcd_int, Vl.fLcm_int, Vl.fList_lst, Vl.fList_tup, Vl.fList_ow, Vl.fList_bw, Vl.fList_scr, Vl.seqC, Vl.lstC, Vl.itemsC, Vl.clW, Vl.W.toD, Vl.M.toD, Vl.clDs, Option.map_some, Option.map_none,
  Vl.aRet, Vl.aRetV, Vl.aRetN, Vl.aNext, Vl.aBreak, Vl.aCont, Vl.aC, Vl.aSet, Vl.aSetC, Vl.slotA, Vl.aDrop, Vl.aAsgG, Vl.agN, Vl.agT, Vl.agCons, Vl.agNil, Vl.iLst, Vl.iTup, Vl.iR1, Vl.iR2, Vl.aTup, Vl.aLst, Vl.aAnd, Vl.aOr, Vl.aNot, Vl.aAndV, Vl.aOrV, Vl.aIfE, Vl.aSl, Vl.aoS, Vl.aoN, Vl.aChain, Vl.aAugAdd, Vl.aAugSub, Vl.aMut, Vl.aMutS, Vl.mAppend, Vl.mPop, Vl.mPopAt, Vl.mReverse, Vl.tyM, Vl.aFrz, Vl.frz, Vl.aSetIx, Vl.aLc, Vl.wipeA, Vl.aYes,
  List.set_cons_zero, List.set_cons_succ, List.length_map, List.length_cons, List.length_nil, decide_eq_true_eq, Bool.not_true, Bool.not_false, if_true, if_false, Bool.false_eq_true, Vl.okD_int, Vl.okD_bl, Vl.okD_non, Vl.eqD_int, Vl.eqD_bl, Vl.eqD_non, true_and, and_true, Vl.snoc_int, Vl.aIsi, Vl.isi_bl_bool, Vl.isi_bl_int, Vl.isi_int_int, Vl.isi_int_bool, Vl.isi_non_int, Vl.isi_non_bool, Vl.isi_lst_list, Vl.isi_tup_list, Vl.isi_tup_tuple, Vl.isi_non_tuple, Vl.isi_non_list, Vl.isi_str_str, Vl.isi_lst_bool, Vl.isi_str_bool, Vl.isi_tup_bool, Vl.ixD_0, Vl.ixD_1, Vl.ixD_2, Vl.ixD_3, Vl.ixD_4, Vl.ixD_5, Vl.ixD_6, Vl.ixD_7, Vl.ixD_8, Vl.ixD_9, Vl.ixD_10, Vl.ixD_11, Vl.aFld, Vl.aMeth, Vl.aMake, Vl.aMakeK, Vl.mInsert, Vl.aIndex, Vl.fMax1_eq, Vl.fSorted_eq, List.getElem?_cons_zero, List.getElem?_cons_succ, List.cons_append, List.nil_append, Vl.aPar, Vl.aIsO, Vl.dNeS, Vl.aDNew, Vl.dEqO, Vl.aDGet, Vl.aDIx, Vl.dInD, Vl.kidsW, Vl.keyO, Vl.keyF, Vl.keysF, Vl.getK_map, Vl.M.toDs, Vl.refM, Vl.bwM, Vl.owM, Vl.aMakeO, Vl.aSetX, Vl.aSetCX, Vl.aDropX, Vl.aRetX, Vl.aAsgGX, Vl.aIfX, Vl.xP, Vl.tP, Vl.aBX, Vl.aAndX, Vl.aOrX, Vl.aNotX, Vl.aBinX, Vl.aCallL, Vl.aMethL, Vl.alHere, Vl.alCons, Vl.setP, Vl.apV, Vl.apFld, Vl.apIx, Vl.apKey, Vl.aMutP, Vl.aFSet, Vl.aDPutP, Vl.kidW, Vl.putM, Vl.dctM, Vl.aLstO, Vl.aoCons, Vl.aoNil, Vl.aDisp, Vl.dispGo, Vl.iLstG, Vl.xMut, Vl.fLenD, Vl.one, Vl.mRemove, Vl.apW, Vl.allW_nil, Vl.allW_cons, Vl.anHere, Vl.anCons, Vl.aCallN, Vl.aCallF, Vl.clAlls, Vl.clAll, Vl.flatW, Vl.flatD, Vl.flatDs, Bool.and_true, Bool.true_and, Vl.aDNewM, Vl.fSortT_eq, Vl.fSortDT_eq, Vl.fMinD_eq, Vl.fMaxD_eq, Vl.aForX_eq, Vl.aCallK, Vl.aCallD, Vl.xSortPop, Vl.dEqS, Vl.aSlT, Vl.aClE, Vl.aLenSet, Vl.aMakeD])
namespace Vl
open PySem PySem.Spec PyProof.Rows L2
/-! ### steps of a net whose nodes are divided; walks that take back; plain -/
abbrev S2 := Int × Int
def IsArc (N : NetV) (f l : Int) (e : Q4) : Prop :=
  (∃ v : Int, (0 ≤ v ∧ v < N.ks.length) ∧ hostN N v = false ∧ e = ((v, 0), (v, 1))) ∨
  (∃ a b : Int, joinN N a b ≠ none ∧ (a = f ∨ hostN N a = false) ∧ (b = l ∨ hostN N b = false) ∧ e = ((a, 1), (b, 0)))
def Res (A U : List Q4) (x y : S2) : Prop := ((x, y) ∈ A ∧ (x, y) ∉ U) ∨ ((y, x) ∈ A ∧ (y, x) ∈ U)
inductive Tree (A U : List Q4) (s : S2) : List (S2 × Option S2) → Prop
  | root : Tree A U s [(s, none)]
  | add {L : List (S2 × Option S2)} {x y : S2} : Tree A U s L → x ∈ L.map (·.1) → y ∉ L.map (·.1) → Res A U x y → Tree A U s (L ++ [(y, some x)])
/-- the steps from t back to s -/
inductive Back (L : List (S2 × Option S2)) (s : S2) : S2 → List S2 → Prop
  | root : (s, none) ∈ L → Back L s s []
  | step {x y : S2} {xs : List S2} : (y, some x) ∈ L → Back L s x xs → Back L s y (x :: xs)
section
variable {A U : List Q4} {s t : S2} {L : List (S2 × Option S2)}
theorem Tree.nodup (h : Tree A U s L) : (L.map (·.1)).Nodup := by
  induction h with
  | root => exact List.nodup_cons.mpr ⟨List.not_mem_nil, List.nodup_nil⟩
  | add h hx hy r ih =>
    rw [List.map_append, List.nodup_append]
    refine ⟨ih, List.nodup_cons.mpr ⟨List.not_mem_nil, List.nodup_nil⟩, fun a ha b hb e => ?_⟩
    rw [List.map_singleton, List.mem_singleton] at hb
    rw [hb] at e
    rw [e] at ha
    exact hy ha
theorem Tree.root_mem (h : Tree A U s L) : (s, none) ∈ L := by
  induction h with
  | root => exact List.mem_singleton.mpr rfl
  | add h hx hy r ih => exact List.mem_append_left _ ih
theorem Back.mono {L M : List (S2 × Option S2)} (hs : ∀ e ∈ L, e ∈ M) {y : S2} {xs : List S2} (h : Back L s y xs) : Back M s y xs := by
  induction h with
  | root h => exact .root (hs _ h)
  | step h _ ih => exact .step (hs _ h) ih
/-- from every key there is a way back, through keys, each but once -/
theorem Tree.back (h : Tree A U s L) : ∀ y ∈ L.map (·.1), ∃ xs, Back L s y xs ∧ (y :: xs).Nodup ∧ ∀ x ∈ xs, x ∈ L.map (·.1) := by
  induction h with
  | root =>
    intro y hy
    rw [List.map_singleton, List.mem_singleton] at hy
    subst hy
    exact ⟨[], .root (List.mem_singleton.mpr rfl), List.nodup_cons.mpr ⟨List.not_mem_nil, List.nodup_nil⟩, fun x hx => nomatch hx⟩
  | @add L x y h hx hy r ih =>
    intro z hz
    rw [List.map_append, List.mem_append] at hz
    rcases hz with hz | hz
    · obtain ⟨xs, h1, h2, h3⟩ := ih z hz
      exact ⟨xs, h1.mono fun e he => List.mem_append_left _ he, h2, fun x hx => by rw [List.map_append]; exact List.mem_append_left _ (h3 x hx)⟩
    · rw [List.map_singleton, List.mem_singleton] at hz
      subst hz
      obtain ⟨xs, h1, h2, h3⟩ := ih x hx
      refine ⟨x :: xs, .step (List.mem_append_right _ (List.mem_singleton.mpr rfl)) (h1.mono fun e he => List.mem_append_left _ he), List.nodup_cons.mpr ⟨fun w => ?_, h2⟩, fun w hw => ?_⟩
      · rcases List.mem_cons.mp w with w | w
        · exact hy (by rw [show z = x from w]; exact hx)
        · exact hy (h3 _ w)
      · rw [List.map_append]
        rcases List.mem_cons.mp hw with w | w
        · rw [w]; exact List.mem_append_left _ hx
        · exact List.mem_append_left _ (h3 _ w)
theorem Tree.res (h : Tree A U s L) {x y : S2} (hm : (y, some x) ∈ L) : Res A U x y := by
  induction h with
  | root => rw [List.mem_singleton] at hm; cases hm
  | add h hx hy r ih =>
    rcases List.mem_append.mp hm with q | q
    · exact ih q
    · rw [List.mem_singleton] at q
      cases q
      exact r
end
/-! ### how much more leaves a set than enters it -/
def netP (R : S2 → Bool) (U : List Q4) : Int := ((U.countP fun e => R e.1) : Int) - ((U.countP fun e => R e.2) : Int)
def ind (R : S2 → Bool) (x : S2) : Int := if R x = true then 1 else 0
theorem netP_nil (R : S2 → Bool) : netP R [] = 0 := rfl
theorem netP_snoc (R : S2 → Bool) (U : List Q4) (p q : S2) : netP R (U ++ [(p, q)]) = netP R U + ind R p - ind R q := by
  unfold netP ind
  rw [List.countP_append, List.countP_append]
  simp only [List.countP_cons, List.countP_nil]
  cases R p <;> cases R q <;> simp <;> omega
theorem countP_del {P : Q4 → Bool} : ∀ {U : List Q4} {q : Q4}, U.Nodup → q ∈ U → (U.countP P : Int) = ((delQ U q).countP P : Int) + (if P q = true then 1 else 0)
  | [], q, _, h => nomatch h
  | e :: U, q, hn, h => by
    obtain ⟨h1, h2⟩ := List.nodup_cons.mp hn
    unfold delQ
    by_cases z : e = q
    · subst z
      have : U.filter (fun x => decide (x ≠ e)) = U := List.filter_eq_self.mpr fun x hx => decide_eq_true fun y => h1 (y ▸ hx)
      rw [List.filter_cons, if_neg (by simp), this, List.countP_cons]
      cases P e <;> simp
    · have hq : q ∈ U := by
        rcases List.mem_cons.mp h with y | y
        · exact absurd y.symm z
        · exact y
      have ih := countP_del (P := P) h2 hq
      unfold delQ at ih
      rw [List.filter_cons, if_pos (by simpa using z), List.countP_cons, List.countP_cons]
      push_cast
      omega
theorem netP_del (R : S2 → Bool) {U : List Q4} {p q : S2} (hn : U.Nodup) (h : (q, p) ∈ U) : netP R (delQ U (q, p)) = netP R U + ind R p - ind R q := by
  have h1 := countP_del (P := fun e => R e.1) hn h
  have h2 := countP_del (P := fun e => R e.2) hn h
  unfold netP ind
  simp only at h1 h2
  omega
theorem delQ_mem {U : List Q4} {q e : Q4} : e ∈ delQ U q ↔ e ∈ U ∧ e ≠ q := by
  unfold delQ
  rw [List.mem_filter, decide_eq_true_eq]
theorem delQ_nodup {U : List Q4} {q : Q4} (h : U.Nodup) : (delQ U q).Nodup := List.Sublist.nodup List.filter_sublist h
theorem delQ_len {U : List Q4} {q : Q4} (hn : U.Nodup) (h : q ∈ U) : (delQ U q).length + 1 = U.length := by
  have := countP_del (P := fun _ => true) hn h
  simp only [List.countP_true, if_true] at this
  omega
/-- what a walk leaves: from t back to s -/
def addStep (U : List Q4) (y x : S2) : List Q4 := if (y, x) ∈ U then delQ U (y, x) else U ++ [(x, y)]
def addW : List Q4 → S2 → List S2 → List Q4
  | U, _, [] => U
  | U, y, x :: xs => addW (addStep U y x) x xs
structure FlowU (A U : List Q4) (s t : S2) (c : Int) : Prop where
  sub : ∀ e ∈ U, e ∈ A
  nd : U.Nodup
  net : ∀ R, netP R U = c * (ind R s - ind R t)
/-- the steps of a walk may be added one after another -/
structure StepsOk (A U : List Q4) (y : S2) (xs : List S2) : Prop where
  nd : (y :: xs).Nodup
  res : ∀ (k : Nat) (a b : S2), (y :: xs)[k]? = some a → (y :: xs)[k + 1]? = some b → Res A U b a
theorem StepsOk.next {A U : List Q4} {y x : S2} {xs : List S2} (h : StepsOk A U y (x :: xs)) (ha : ∀ p, (p, p) ∉ A) : StepsOk A (addStep U y x) x xs := by
  obtain ⟨hn, hr⟩ := h
  obtain ⟨h1, h2⟩ := List.nodup_cons.mp hn
  refine ⟨h2, fun k a b e1 e2 => ?_⟩
  have r := hr (k + 1) a b (by simpa using e1) (by simpa using e2)
  have ma : a ∈ x :: xs := List.mem_of_getElem? e1
  have mb : b ∈ x :: xs := List.mem_of_getElem? e2
  have na : a ≠ y := fun z => h1 (z ▸ ma)
  have nb : b ≠ y := fun z => h1 (z ▸ mb)
  have key : ∀ p q : S2, p ≠ y → q ≠ y → ((p, q) ∈ addStep U y x ↔ (p, q) ∈ U) := fun p q hp hq => by
    unfold addStep
    split
    · rw [delQ_mem]
      exact ⟨fun z => z.1, fun z => ⟨z, fun w => hp (congrArg Prod.fst w)⟩⟩
    · rw [List.mem_append, List.mem_singleton]
      exact ⟨fun z => z.elim id fun w => absurd (congrArg Prod.snd w) hq, .inl⟩
  rcases r with ⟨r1, r2⟩ | ⟨r1, r2⟩
  · exact .inl ⟨r1, fun z => r2 ((key _ _ nb na).mp z)⟩
  · exact .inr ⟨r1, (key _ _ na nb).mpr r2⟩
theorem StepsOk.step {A U : List Q4} {y x : S2} {xs : List S2} (h : StepsOk A U y (x :: xs)) : Res A U x y := h.res 0 y x rfl rfl
theorem addStep_ok {A U : List Q4} {y x : S2} (hs : ∀ e ∈ U, e ∈ A) (hn : U.Nodup) (r : Res A U x y) : (∀ e ∈ addStep U y x, e ∈ A) ∧ (addStep U y x).Nodup ∧ (∀ R, netP R (addStep U y x) = netP R U + ind R x - ind R y) ∧ (addStep U y x).length ≤ U.length + 1 ∧ ((y, x) ∉ U → (x, y) ∉ U) := by
  unfold addStep
  split
  · rename_i q
    exact ⟨fun e he => hs e (delQ_mem.mp he).1, delQ_nodup hn, fun R => netP_del R hn q, by have := delQ_len hn q; omega, fun z => absurd q z⟩
  · rename_i q
    have r1 : (x, y) ∈ A ∧ (x, y) ∉ U := by
      rcases r with r | r
      · exact r
      · exact absurd r.2 q
    refine ⟨fun e he => ?_, ?_, fun R => netP_snoc R U x y, by rw [List.length_append, List.length_singleton]; omega, fun _ => r1.2⟩
    · rcases List.mem_append.mp he with z | z
      · exact hs e z
      · rw [List.mem_singleton.mp z]; exact r1.1
    · rw [List.nodup_append]
      refine ⟨hn, List.nodup_cons.mpr ⟨List.not_mem_nil, List.nodup_nil⟩, fun a ha b hb z => r1.2 ?_⟩
      rw [List.mem_singleton.mp hb] at z
      exact z ▸ ha
theorem addW_ok {A : List Q4} (ha : ∀ p, (p, p) ∉ A) : ∀ {xs : List S2} {U : List Q4} {y : S2}, (∀ e ∈ U, e ∈ A) → U.Nodup → StepsOk A U y xs → ∀ s, (y :: xs).getLast? = some s → (∀ e ∈ addW U y xs, e ∈ A) ∧ (addW U y xs).Nodup ∧ (∀ R, netP R (addW U y xs) = netP R U + ind R s - ind R y)
  | [], U, y, hs, hn, h, s, e => by
    have e : y = s := by simpa using e
    subst e
    exact ⟨hs, hn, fun R => by show netP R U = _; omega⟩
  | x :: xs, U, y, hs, hn, h, s, e => by
    obtain ⟨a1, a2, a3, _, _⟩ := addStep_ok hs hn h.step
    obtain ⟨b1, b2, b3⟩ := addW_ok ha (xs := xs) (U := addStep U y x) (y := x) a1 a2 (h.next ha) s (by rw [List.getLast?_cons_cons] at e; exact e)
    exact ⟨b1, b2, fun R => by rw [show addW U y (x :: xs) = addW (addStep U y x) x xs from rfl, b3 R, a3 R]; omega⟩
theorem Back.last {L : List (S2 × Option S2)} {s y : S2} {xs : List S2} (h : Back L s y xs) : (y :: xs).getLast? = some s := by
  induction h with
  | root h => rfl
  | step h _ ih => rw [List.getLast?_cons_cons]; exact ih
theorem Back.at {L : List (S2 × Option S2)} {s y : S2} {xs : List S2} (h : Back L s y xs) : ∀ (k : Nat) (a b : S2), (y :: xs)[k]? = some a → (y :: xs)[k + 1]? = some b → (a, some b) ∈ L := by
  induction h with
  | root h => intro k a b _ e2; simp at e2
  | @step x y xs h _ ih =>
    intro k a b e1 e2
    cases k with
    | zero => cases e1; cases e2; exact h
    | succ k => exact ih k a b (by simpa using e1) (by simpa using e2)
theorem Tree.steps {A U : List Q4} {s t : S2} {L : List (S2 × Option S2)} (h : Tree A U s L) {xs : List S2} (hb : Back L s t xs) (hn : (t :: xs).Nodup) : StepsOk A U t xs :=
  ⟨hn, fun k a b e1 e2 => h.res (hb.at k a b e1 e2)⟩
/-- a walk is added to a flow -/
theorem FlowU.add {A U : List Q4} {s t : S2} {c : Int} (F : FlowU A U s t c) (ha : ∀ p, (p, p) ∉ A) {L : List (S2 × Option S2)} (h : Tree A U s L) {xs : List S2} (hb : Back L s t xs) (hn : (t :: xs).Nodup) : FlowU A (addW U t xs) s t (c + 1) := by
  obtain ⟨b1, b2, b3⟩ := addW_ok ha F.sub F.nd (h.steps hb hn) s hb.last
  refine ⟨b1, b2, fun R => ?_⟩
  rw [b3, F.net, Int.add_mul]
  omega
theorem FlowU.none {A : List Q4} {s t : S2} : FlowU A [] s t 0 := ⟨fun e h => (nomatch h), List.nodup_nil, fun R => by rw [netP_nil, Int.zero_mul]⟩
end Vl
set_option maxHeartbeats 2000000
namespace Vl
open PySem PySem.Spec PyProof.Rows L2
/-! ### two separate rows, or a bottleneck -/
structure Ends2 (N : NetV) (f l : Int) : Prop where
  hf : 0 ≤ f ∧ f < N.ks.length
  hl : 0 ≤ l ∧ l < N.ks.length
  ff : hostN N f = true
  ll : hostN N l = true
  ne : f ≠ l
def c0' : CutV := ⟨[], none⟩
def NoWay (N : NetV) (c : CutV) (f l : Int) : Prop := ∀ k, ¬ WayN N c l k f
def Bott (N : NetV) (f l : Int) : Prop :=
  (∃ v : Int, (0 ≤ v ∧ v < N.ks.length) ∧ hostN N v = false ∧ NoWay N ⟨[v], none⟩ f l) ∨
  (∃ a b : Int, joinN N a b ≠ none ∧ NoWay N ⟨[], some (mnI a b, mxI a b)⟩ f l)
structure SepP (N : NetV) (f l : Int) (r1 r2 : List Int) : Prop where
  w1 : WayL N c0 l (f :: r1)
  w2 : WayL N c0 l (f :: r2)
  n1 : (f :: r1).Nodup
  n2 : (f :: r2).Nodup
  dj : ∀ v ∈ r1, v ∈ r2 → v = l
  no : ¬ (r1 = [l] ∧ r2 = [l])
section
variable {N : NetV} {f l : Int}
theorem arc_irr (p : S2) : ¬ IsArc N f l (p, p) := by
  rintro (⟨v, _, _, e⟩ | ⟨a, b, _, _, _, e⟩)
  · have h1 := congrArg (fun x : Q4 => x.1.2) e
    have h2 := congrArg (fun x : Q4 => x.2.2) e
    simp only at h1 h2
    omega
  · have h1 := congrArg (fun x : Q4 => x.1.2) e
    have h2 := congrArg (fun x : Q4 => x.2.2) e
    simp only at h1 h2
    omega
theorem arc_out0 {v : Int} {y : S2} (h : IsArc N f l ((v, 0), y)) : y = (v, 1) ∧ hostN N v = false ∧ (0 ≤ v ∧ v < N.ks.length) := by
  rcases h with ⟨w, h1, h2, e⟩ | ⟨a, b, _, _, _, e⟩
  · have e1 := congrArg (fun x : Q4 => x.1.1) e
    have e2 := congrArg (fun x : Q4 => x.2) e
    simp only at e1 e2
    subst e1
    exact ⟨e2, h2, h1⟩
  · have := congrArg (fun x : Q4 => x.1.2) e
    simp only at this
    omega
theorem arc_out1 {a : Int} {y : S2} (h : IsArc N f l ((a, 1), y)) : ∃ b, y = (b, 0) ∧ joinN N a b ≠ none ∧ (a = f ∨ hostN N a = false) ∧ (b = l ∨ hostN N b = false) := by
  rcases h with ⟨w, h1, h2, e⟩ | ⟨a', b, h1, h2, h3, e⟩
  · have := congrArg (fun x : Q4 => x.1.2) e
    simp only at this
    omega
  · have e1 := congrArg (fun x : Q4 => x.1.1) e
    have e2 := congrArg (fun x : Q4 => x.2) e
    simp only at e1 e2
    subst e1
    exact ⟨b, e2, h1, h2, h3⟩
theorem arc_in0 {b : Int} {x : S2} (h : IsArc N f l (x, (b, 0))) : ∃ a, x = (a, 1) ∧ joinN N a b ≠ none ∧ (a = f ∨ hostN N a = false) ∧ (b = l ∨ hostN N b = false) := by
  rcases h with ⟨w, h1, h2, e⟩ | ⟨a, b', h1, h2, h3, e⟩
  · have := congrArg (fun x : Q4 => x.2.2) e
    simp only at this
    omega
  · have e1 := congrArg (fun x : Q4 => x.2.1) e
    have e2 := congrArg (fun x : Q4 => x.1) e
    simp only at e1 e2
    subst e1
    exact ⟨a, e2, h1, h2, h3⟩
/-! counting -/
theorem count_le_one {P : Q4 → Bool} : ∀ {U : List Q4}, U.Nodup → (∀ a ∈ U, ∀ b ∈ U, P a = true → P b = true → a = b) → U.countP P ≤ 1
  | [], _, _ => Nat.zero_le _
  | e :: U, hn, h => by
    obtain ⟨h1, h2⟩ := List.nodup_cons.mp hn
    have ih := count_le_one (P := P) h2 fun a ha b hb => h a (List.mem_cons_of_mem _ ha) b (List.mem_cons_of_mem _ hb)
    rw [List.countP_cons]
    split
    · rename_i pe
      have : U.countP P = 0 := List.countP_eq_zero.mpr fun a ha pa => h1 (h e List.mem_cons_self a (List.mem_cons_of_mem _ ha) pe pa ▸ ha)
      omega
    · omega
theorem uniq_of_count {P : Q4 → Bool} : ∀ {U : List Q4}, U.countP P ≤ 1 → ∀ a ∈ U, ∀ b ∈ U, P a = true → P b = true → a = b
  | [], _, a, ha, _, _, _, _ => nomatch ha
  | e :: U, h, a, ha, b, hb, pa, pb => by
    rw [List.countP_cons] at h
    have pos : ∀ x ∈ U, P x = true → 0 < U.countP P := fun x hx px => List.countP_pos_iff.mpr ⟨x, hx, px⟩
    rcases List.mem_cons.mp ha with ha' | ha' <;> rcases List.mem_cons.mp hb with hb' | hb'
    · rw [ha', hb']
    · have := pos b hb' pb
      rw [← ha', if_pos pa] at h
      omega
    · have := pos a ha' pa
      rw [← hb', if_pos pb] at h
      omega
    · exact uniq_of_count (by omega) a ha' b hb' pa pb
theorem count_split {R : S2 → Bool} : ∀ {U : List Q4}, (∀ e ∈ U, R e.2 = true → R e.1 = true) → U.countP (fun e => R e.1) = U.countP (fun e => R e.2) + U.countP (fun e => R e.1 && !R e.2)
  | [], _ => rfl
  | e :: U, h => by
    have ih := count_split (R := R) (U := U) fun x hx => h x (List.mem_cons_of_mem _ hx)
    have he := h e List.mem_cons_self
    rw [List.countP_cons, List.countP_cons, List.countP_cons, ih]
    cases h1 : R e.1 <;> cases h2 : R e.2
    · simp
    · rw [h1, h2] at he; exact absurd (he rfl) (by decide)
    · simp; omega
    · simp; omega
def UniqIn (U : List Q4) (x : S2) : Prop := ∀ e1 ∈ U, ∀ e2 ∈ U, e1.2 = x → e2.2 = x → e1 = e2
theorem FlowU.uniq {A U : List Q4} {c : Int} (hA : ∀ e ∈ A, IsArc N f l e) (F : FlowU A U (f, 1) (l, 0) c) {v : Int} (hv : v ≠ l) : UniqIn U (v, 0) := by
  have hn := F.net fun y => decide (y = (v, 0))
  have i1 : ind (fun y => decide (y = (v, 0))) ((f, 1) : S2) = 0 := by
    unfold ind
    rw [if_neg]
    rw [decide_eq_true_eq]
    intro z
    have := congrArg Prod.snd z
    simp only at this
    omega
  have i2 : ind (fun y => decide (y = (v, 0))) ((l, 0) : S2) = 0 := by
    unfold ind
    rw [if_neg]
    rw [decide_eq_true_eq]
    intro z
    exact hv (congrArg Prod.fst z).symm
  rw [i1, i2] at hn
  have ho : U.countP (fun e => decide (e.1 = (v, 0))) ≤ 1 := count_le_one F.nd fun a ha b hb pa pb => by
    have ea := of_decide_eq_true pa
    have eb := of_decide_eq_true pb
    obtain ⟨a1, a2⟩ := a
    obtain ⟨b1, b2⟩ := b
    simp only at ea eb
    subst ea eb
    rw [(arc_out0 (hA _ (F.sub _ ha))).1, (arc_out0 (hA _ (F.sub _ hb))).1]
  have hi : U.countP (fun e => decide (e.2 = (v, 0))) ≤ 1 := by
    unfold netP at hn
    simp only [Int.sub_self, Int.mul_zero] at hn
    omega
  exact fun e1 h1 e2 h2 q1 q2 => uniq_of_count hi e1 h1 e2 h2 (decide_eq_true q1) (decide_eq_true q2)
/-! following -/
inductive Fol (t : S2) : List Q4 → S2 → List S2 → List Q4 → Prop
  | done {W : List Q4} : Fol t W t [] W
  | step {W W' : List Q4} {x y : S2} {xs : List S2} : x ≠ t → (x, y) ∈ W → Fol t (delQ W (x, y)) y xs W' → Fol t W x (y :: xs) W'
theorem Fol.sub {t : S2} {W W' : List Q4} {x : S2} {xs : List S2} (h : Fol t W x xs W') : ∀ e ∈ W', e ∈ W := by
  induction h with
  | done => exact fun e h => h
  | step _ _ _ ih => exact fun e h => (delQ_mem.mp (ih e h)).1
theorem Fol.used {t : S2} {W W' : List Q4} {x : S2} {xs : List S2} (h : Fol t W x xs W') : ∀ y ∈ xs, ∃ e ∈ W, e.2 = y ∧ e ∉ W' := by
  induction h with
  | done => exact fun y h => nomatch h
  | @step W W' x y xs h1 h2 h3 ih =>
    intro z hz
    rcases List.mem_cons.mp hz with q | q
    · exact ⟨(x, y), h2, q.symm, fun w => (delQ_mem.mp (h3.sub _ w)).2 rfl⟩
    · obtain ⟨e, e1, e2, e3⟩ := ih z q
      exact ⟨e, (delQ_mem.mp e1).1, e2, e3⟩
theorem Fol.flow {t s : S2} {k : Int} {W W' : List Q4} {x : S2} {xs : List S2} (h : Fol t W x xs W') : W.Nodup → (∀ R, netP R W = ind R x - ind R t + k * (ind R s - ind R t)) → W'.Nodup ∧ ∀ R, netP R W' = k * (ind R s - ind R t) := by
  induction h with
  | done => exact fun hn h => ⟨hn, fun R => by rw [h R]; omega⟩
  | @step W W' x y xs h1 h2 h3 ih =>
    intro hn hR
    refine ih (delQ_nodup hn) fun R => ?_
    have := countP_del (P := fun e => R e.1) hn h2
    have h5 := countP_del (P := fun e => R e.2) hn h2
    have h6 := hR R
    unfold netP ind at h6 ⊢
    simp only at this h5 h6 ⊢
    omega
theorem Fol.stop {t : S2} {W W' : List Q4} {xs : List S2} (h : Fol t W t xs W') : xs = [] := by
  cases h with
  | done => rfl
  | step h1 _ _ => exact absurd rfl h1
theorem Fol.first {t : S2} {W W' : List Q4} {x y : S2} {xs : List S2} (h : Fol t W x (y :: xs) W') : (x, y) ∈ W ∧ (x, y) ∉ W' ∧ Fol t (delQ W (x, y)) y xs W' := by
  cases h with
  | step h1 h2 h3 => exact ⟨h2, fun w => (delQ_mem.mp (h3.sub _ w)).2 rfl, h3⟩
theorem Fol.cons {t : S2} {W W' : List Q4} {x : S2} {xs : List S2} (h : Fol t W x xs W') (hx : x ≠ t) : ∃ y ys, xs = y :: ys := by
  cases h with
  | done => exact absurd rfl hx
  | step _ _ _ => exact ⟨_, _, rfl⟩
/-- the nodes that are entered -/
def nodesOf (xs : List S2) : List Int := (xs.filter fun x => decide (x.2 = 0)).map (·.1)
theorem nodesOf_0 {v : Int} {xs : List S2} : nodesOf ((v, 0) :: xs) = v :: nodesOf xs := by simp [nodesOf]
theorem nodesOf_1 {v : Int} {xs : List S2} : nodesOf ((v, 1) :: xs) = nodesOf xs := by simp [nodesOf]
theorem nodesOf_mem {v : Int} {xs : List S2} : v ∈ nodesOf xs ↔ (v, 0) ∈ xs := by
  unfold nodesOf
  rw [List.mem_map]
  constructor
  · rintro ⟨⟨a, b⟩, h, rfl⟩
    obtain ⟨h1, h2⟩ := List.mem_filter.mp h
    have h2 : b = 0 := of_decide_eq_true h2
    subst h2
    exact h1
  · intro h
    exact ⟨(v, 0), List.mem_filter.mpr ⟨h, by simp⟩, rfl⟩
theorem Fol.way (hh : hostN N l = true) : ∀ {n : Nat} {W W' : List Q4} {a : Int} {xs : List S2}, xs.length ≤ n → (∀ e ∈ W, IsArc N f l e) → Fol (l, 0) W (a, 1) xs W' → WayL N c0 l (a :: nodesOf xs) ∧ (∀ v ∈ nodesOf xs, v = l ∨ hostN N v = false) ∧ ((∀ v, v ≠ l → UniqIn W (v, 0)) → (nodesOf xs).Nodup)
  | n, W, W', a, xs, hn, hW, h => by
    obtain ⟨y, ys, rfl⟩ := h.cons (fun z => by have := congrArg Prod.snd z; simp only at this; omega)
    obtain ⟨m, _, h2⟩ := h.first
    obtain ⟨b, rfl, j, hl, he⟩ := arc_out1 (hW _ m)
    have hlink : LinkC N c0 a b := ⟨j, fun z => nomatch z⟩
    have hnw : a ∉ c0.wo := fun z => nomatch z
    rw [nodesOf_0]
    by_cases hb : b = l
    · subst hb
      have := h2.stop
      subst this
      exact ⟨⟨hnw, hlink, .inl rfl, rfl⟩, fun v hv => .inl (List.mem_singleton.mp hv), fun _ => List.nodup_cons.mpr ⟨List.not_mem_nil, List.nodup_nil⟩⟩
    · obtain ⟨z, zs, rfl⟩ := h2.cons (fun q => hb (congrArg Prod.fst q))
      obtain ⟨m2, _, h3⟩ := h2.first
      obtain ⟨rfl, hs, _⟩ := arc_out0 (hW _ (delQ_mem.mp m2).1)
      have hW3 : ∀ e ∈ delQ (delQ W ((a, 1), (b, 0))) ((b, 0), (b, 1)), e ∈ W := fun e he => (delQ_mem.mp (delQ_mem.mp he).1).1
      cases n with
      | zero => simp at hn
      | succ n =>
        obtain ⟨i1, i2, i3⟩ := Fol.way hh (n := n) (by simp at hn; omega) (fun e he => hW e (hW3 e he)) h3
        rw [nodesOf_1]
        refine ⟨⟨hnw, hlink, .inr hs, i1⟩, fun v hv => ?_, fun hu => List.nodup_cons.mpr ⟨fun q => ?_, i3 fun v hv e1 h1 e2 h2 => hu v hv e1 (hW3 e1 h1) e2 (hW3 e2 h2)⟩⟩
        · rcases List.mem_cons.mp hv with q | q
          · rw [q]; exact .inr hs
          · exact i2 v q
        · obtain ⟨e, e1, e2, _⟩ := h3.used _ (nodesOf_mem.mp q)
          have e1' := (delQ_mem.mp e1).1
          have := hu b hb e (delQ_mem.mp e1').1 ((a, 1), (b, 0)) m e2 rfl
          exact (delQ_mem.mp e1').2 this
/-- what two followings give -/
theorem sep_of {A W W' W'' : List Q4} {xs ys : List S2} (E : Ends2 N f l) (hA : ∀ e ∈ A, IsArc N f l e) (F : FlowU A W (f, 1) (l, 0) 2) (h1 : Fol (l, 0) W (f, 1) xs W') (h2 : Fol (l, 0) W' (f, 1) ys W'') : SepP N f l (nodesOf xs) (nodesOf ys) := by
  have hW : ∀ e ∈ W, IsArc N f l e := fun e he => hA e (F.sub e he)
  have hu : ∀ v, v ≠ l → UniqIn W (v, 0) := fun v hv => F.uniq hA hv
  obtain ⟨a1, a2, a3⟩ := h1.way E.ll (Nat.le_refl _) hW
  obtain ⟨b1, b2, b3⟩ := h2.way E.ll (Nat.le_refl _) fun e he => hW e (h1.sub e he)
  have nf : ∀ {zs : List S2}, (∀ v ∈ nodesOf zs, v = l ∨ hostN N v = false) → f ∉ nodesOf zs := fun h z => (h f z).elim E.ne fun q => by rw [E.ff] at q; cases q
  refine ⟨a1, b1, List.nodup_cons.mpr ⟨nf a2, a3 hu⟩, List.nodup_cons.mpr ⟨nf b2, b3 fun v hv e1 q1 e2 q2 => hu v hv e1 (h1.sub _ q1) e2 (h1.sub _ q2)⟩, fun v hv hv2 => ?_, fun ⟨e1, e2⟩ => ?_⟩
  · apply Classical.byContradiction
    intro z
    obtain ⟨e1, p1, p2, p3⟩ := h1.used _ (nodesOf_mem.mp hv)
    obtain ⟨e2, q1, q2, q3⟩ := h2.used _ (nodesOf_mem.mp hv2)
    have := hu v z e1 p1 e2 (h1.sub _ q1) p2 q2
    exact p3 (this ▸ q1)
  · have nt : ((f, 1) : S2) ≠ (l, 0) := fun z => by have := congrArg Prod.snd z; simp only at this; omega
    have fst : ∀ {Z Z' : List Q4} {zs : List S2}, (∀ e ∈ Z, IsArc N f l e) → Fol (l, 0) Z (f, 1) zs Z' → nodesOf zs = [l] → ((f, 1), (l, 0)) ∈ Z ∧ ((f, 1), (l, 0)) ∉ Z' := fun hZ h e => by
      obtain ⟨y, ys, rfl⟩ := h.cons nt
      obtain ⟨m, m2, _⟩ := h.first
      obtain ⟨b, rfl, _⟩ := arc_out1 (hZ _ m)
      rw [nodesOf_0] at e
      have : b = l := by injection e
      subst this
      exact ⟨m, m2⟩
    exact (fst hW h1 e1).2 (fst (fun e he => hW e (h1.sub e he)) h2 e2).1
/-! a set that no free step leaves -/
theorem cross {c : CutV} (R : S2 → Prop) (ht : ¬ R (l, 0)) (hhl : hostN N l = true) (hin : ∀ a b, joinN N a b ≠ none → 0 ≤ b ∧ b < N.ks.length) : ∀ {r : List Int} {v : Int}, WayL N c l (v :: r) → (v = f ∨ hostN N v = false) → v ≠ l → R (v, 1) →
    (∃ a b, LinkC N c a b ∧ (a = f ∨ hostN N a = false) ∧ (b = l ∨ hostN N b = false) ∧ R (a, 1) ∧ ¬ R (b, 0)) ∨ (∃ b, b ∉ c.wo ∧ hostN N b = false ∧ (0 ≤ b ∧ b < N.ks.length) ∧ R (b, 0) ∧ ¬ R (b, 1))
  | [], v, h, _, hv, _ => absurd h hv
  | y :: r, v, h, hs, hv, hR => by
    obtain ⟨h1, h2, h3, h4⟩ := h
    by_cases q : R (y, 0)
    · have hy : y ≠ l := fun z => ht (z ▸ q)
      have hsy : hostN N y = false := h3.elim (fun z => absurd z hy) id
      by_cases q2 : R (y, 1)
      · exact cross R ht hhl hin h4 (.inr hsy) hy q2
      · refine .inr ⟨y, ?_, hsy, hin _ _ h2.1, q, q2⟩
        cases r with
        | nil => exact absurd h4 hy
        | cons z r => exact h4.1
    · exact .inl ⟨v, y, h2, hs, h3, hR, q⟩
/-- no free step leaves R: there is no row, or one step lies on all -/
theorem cut_none {A : List Q4} (hN : NetW N) (E : Ends2 N f l) (hA : ∀ e, e ∈ A ↔ IsArc N f l e) (R : List S2) (hs : ((f, 1) : S2) ∈ R) (ht : ((l, 0) : S2) ∉ R) (hc : ∀ x ∈ R, ∀ y, Res A [] x y → y ∈ R) : NoWay N c0 f l := by
  rintro k ⟨r, _, hw⟩
  have out : ∀ x y, (x, y) ∈ A → x ∈ R → y ∈ R := fun x y hm hx => hc x hx y (.inl ⟨hm, fun z => nomatch z⟩)
  rcases cross (N := N) (f := f) (l := l) (fun x => x ∈ R) ht E.ll (fun a b h => (join_in hN h).2) hw (.inl rfl) E.ne hs with ⟨a, b, h1, h2, h3, h4, h5⟩ | ⟨b, h1, h2, h3, h4, h5⟩
  · exact h5 (out _ _ ((hA _).mpr (.inr ⟨a, b, h1.1, h2, h3, rfl⟩)) h4)
  · exact h5 (out _ _ ((hA _).mpr (.inl ⟨b, h3, h2, rfl⟩)) h4)
theorem cut_one {A U : List Q4} (hN : NetW N) (E : Ends2 N f l) (hA : ∀ e, e ∈ A ↔ IsArc N f l e) (F : FlowU A U (f, 1) (l, 0) 1) (R : List S2) (hs : ((f, 1) : S2) ∈ R) (ht : ((l, 0) : S2) ∉ R) (hc : ∀ x ∈ R, ∀ y, Res A U x y → y ∈ R) : Bott N f l := by
  have hin : ∀ e ∈ U, e.2 ∈ R → e.1 ∈ R := fun e he h => hc _ h _ (.inr ⟨F.sub e he, he⟩)
  have hn := F.net fun x => decide (x ∈ R)
  have i1 : ind (fun x => decide (x ∈ R)) ((f, 1) : S2) = 1 := by unfold ind; rw [if_pos (decide_eq_true hs)]
  have i2 : ind (fun x => decide (x ∈ R)) ((l, 0) : S2) = 0 := by unfold ind; rw [if_neg (by show ¬ decide (((l, 0) : S2) ∈ R) = true; rw [decide_eq_false ht]; decide)]
  rw [i1, i2] at hn
  have hn : ((U.countP fun e => decide (e.1 ∈ R)) : Int) - ((U.countP fun e => decide (e.2 ∈ R)) : Int) = 1 * (1 - 0) := hn
  have hsp : U.countP (fun e => decide (e.1 ∈ R)) = U.countP (fun e => decide (e.2 ∈ R)) + U.countP (fun e => decide (e.1 ∈ R) && !decide (e.2 ∈ R)) := count_split (R := fun x => decide (x ∈ R)) (U := U) fun e he h => decide_eq_true (hin e he (of_decide_eq_true h))
  have hc1 : U.countP (fun e => decide (e.1 ∈ R) && !decide (e.2 ∈ R)) = 1 := by
    omega
  obtain ⟨e0, he0, p0⟩ := List.countP_pos_iff.mp (show 0 < U.countP (fun e => decide (e.1 ∈ R) && !decide (e.2 ∈ R)) by omega)
  have one : ∀ x y, (x, y) ∈ A → x ∈ R → y ∉ R → (x, y) = e0 := fun x y hm hx hy => by
    have hU : (x, y) ∈ U := by
      apply Classical.byContradiction
      intro z
      exact hy (hc x hx y (.inl ⟨hm, z⟩))
    exact uniq_of_count (Nat.le_of_eq hc1) _ hU _ he0 (by rw [decide_eq_true hx, decide_eq_false hy]; rfl) p0
  have w0 := (hA _).mp (F.sub _ he0)
  rcases w0 with ⟨v, h1, h2, e⟩ | ⟨a, b, h1, h2, h3, e⟩
  · refine .inl ⟨v, h1, h2, ?_⟩
    rintro k ⟨r, _, hw⟩
    rcases cross (N := N) (f := f) (l := l) (fun x => x ∈ R) ht E.ll (fun a b h => (join_in hN h).2) hw (.inl rfl) E.ne hs with ⟨a, b, g1, g2, g3, g4, g5⟩ | ⟨b, g1, g2, g3, g4, g5⟩
    · have := one _ _ ((hA _).mpr (.inr ⟨a, b, g1.1, g2, g3, rfl⟩)) g4 g5
      rw [e] at this
      have := congrArg (fun x : Q4 => x.1.2) this
      simp only at this
      omega
    · have := one _ _ ((hA _).mpr (.inl ⟨b, g3, g2, rfl⟩)) g4 g5
      rw [e] at this
      have := congrArg (fun x : Q4 => x.1.1) this
      simp only at this
      exact g1 (List.mem_singleton.mpr this)
  · refine .inr ⟨a, b, h1, ?_⟩
    rintro k ⟨r, _, hw⟩
    rcases cross (N := N) (f := f) (l := l) (fun x => x ∈ R) ht E.ll (fun a b h => (join_in hN h).2) hw (.inl rfl) E.ne hs with ⟨a', b', g1, g2, g3, g4, g5⟩ | ⟨b', g1, g2, g3, g4, g5⟩
    · have := one _ _ ((hA _).mpr (.inr ⟨a', b', g1.1, g2, g3, rfl⟩)) g4 g5
      rw [e] at this
      have e1 := congrArg (fun x : Q4 => x.1.1) this
      have e2 := congrArg (fun x : Q4 => x.2.1) this
      simp only at e1 e2
      subst e1 e2
      exact g1.2 rfl
    · have := one _ _ ((hA _).mpr (.inl ⟨b', g3, g2, rfl⟩)) g4 g5
      rw [e] at this
      have := congrArg (fun x : Q4 => x.1.2) this
      simp only at this
      omega
/-! two separate rows: no bottleneck -/
theorem wayL_cut {c : CutV} {p : List Int} (h : WayL N c0 l p) (hw : ∀ k, k + 1 < p.length → p.getD k 0 ∉ c.wo) (hc : ∀ k, k + 1 < p.length → c.cut ≠ some (mnI (p.getD k 0) (p.getD (k + 1) 0), mxI (p.getD k 0) (p.getD (k + 1) 0))) : WayL N c l p := by
  obtain ⟨h1, h2, h3⟩ := wayL_iff.mp h
  exact wayL_iff.mpr ⟨h1, h2, fun k hk => ⟨hw k hk, ⟨(h3 k hk).2.1.1, hc k hk⟩, (h3 k hk).2.2⟩⟩
theorem SepP.swap {r1 r2 : List Int} (h : SepP N f l r1 r2) : SepP N f l r2 r1 := ⟨h.w2, h.w1, h.n2, h.n1, fun v a b => h.dj v b a, fun z => h.no ⟨z.2, z.1⟩⟩
theorem SepP.noBott {r1 r2 : List Int} (E : Ends2 N f l) (h : SepP N f l r1 r2) : ¬ Bott N f l := by
  have mem1 : ∀ {r : List Int} {k : Nat}, k < (f :: r).length → (f :: r).getD k 0 = f ∨ (f :: r).getD k 0 ∈ r := fun {r k} hk => by
    cases k with
    | zero => exact .inl rfl
    | succ k => exact .inr (List.mem_of_getElem? (getD_at (xs := r) (by simpa using hk)))
  rintro (⟨v, hv, hs, hno⟩ | ⟨a, b, hj, hno⟩)
  · have vf : v ≠ f := fun z => by rw [z, E.ff] at hs; cases hs
    have vl : v ≠ l := fun z => by rw [z, E.ll] at hs; cases hs
    have go : ∀ {r : List Int}, WayL N c0 l (f :: r) → v ∉ r → False := fun {r} hw hn => hno r.length ⟨r, rfl, wayL_cut hw (fun k hk z => by
      have z := List.mem_singleton.mp z
      rcases mem1 (r := r) (k := k) (by omega) with q | q
      · exact vf (z.symm.trans q)
      · exact hn (z ▸ q)) fun k hk z => nomatch z⟩
    by_cases q : v ∈ r1
    · by_cases q2 : v ∈ r2
      · exact vl (h.dj v q q2)
      · exact go h.w2 q2
    · exact go h.w1 q
  · -- both rows must use the line
    have use : ∀ {r : List Int}, WayL N c0 l (f :: r) → ∃ k, k + 1 < (f :: r).length ∧ mnI a b = mnI ((f :: r).getD k 0) ((f :: r).getD (k + 1) 0) ∧ mxI a b = mxI ((f :: r).getD k 0) ((f :: r).getD (k + 1) 0) := fun {r} hw => by
      apply Classical.byContradiction
      intro z
      exact hno r.length ⟨r, rfl, wayL_cut hw (fun k hk w => nomatch w) fun k hk w => z ⟨k, hk, by
        have w := Option.some.inj w
        exact ⟨congrArg Prod.fst w, congrArg Prod.snd w⟩⟩⟩
    obtain ⟨i, i1, i2, i3⟩ := use h.w1
    obtain ⟨j, j1, j2, j3⟩ := use h.w2
    obtain ⟨_, l1, _⟩ := wayL_iff.mp h.w1
    obtain ⟨_, l2, _⟩ := wayL_iff.mp h.w2
    -- a common node is f or l
    have com : ∀ {k m : Nat}, k < (f :: r1).length → m < (f :: r2).length → (f :: r1).getD k 0 = (f :: r2).getD m 0 → (k = 0 ∧ m = 0) ∨ (k + 1 = (f :: r1).length ∧ m + 1 = (f :: r2).length) := fun {k m} hk hm e => by
      have f1 : ∀ {r : List Int} {k : Nat}, (f :: r).Nodup → k < (f :: r).length → (f :: r).getD k 0 = f → k = 0 := fun hn hk e => nodup_getD hn hk (by simp) (by rw [e]; rfl)
      have g1 : ∀ {r : List Int} {k : Nat}, (f :: r).Nodup → (f :: r).getD ((f :: r).length - 1) 0 = l → k < (f :: r).length → (f :: r).getD k 0 = l → k + 1 = (f :: r).length := fun hn hl hk e => by
        have := nodup_getD hn hk (by simp) (e.trans hl.symm)
        simp at this hk ⊢
        omega
      rcases mem1 hk with q | q
      · exact .inl ⟨f1 h.n1 hk q, f1 h.n2 hm (e ▸ q)⟩
      · rcases mem1 hm with q2 | q2
        · exact .inl ⟨f1 h.n1 hk (e.trans q2), f1 h.n2 hm q2⟩
        · have := h.dj _ q (by rw [e]; exact q2)
          exact .inr ⟨g1 h.n1 l1 hk this, g1 h.n2 l2 hm (e ▸ this)⟩
    have two : ∀ {x y x' y' : Int}, mnI x y = mnI x' y' → mxI x y = mxI x' y' → (x = x' ∧ y = y') ∨ (x = y' ∧ y = x') := fun {x y x' y'} e1 e2 => by
      unfold mnI at e1
      unfold mxI at e2
      split at e1 <;> split at e1 <;> split at e2 <;> split at e2 <;> omega
    rcases two (i2.symm.trans j2) (i3.symm.trans j3) with ⟨e1, e2⟩ | ⟨e1, e2⟩
    · have c1 := com (show i < _ by omega) (show j < _ by omega) e1
      have c2 := com i1 j1 e2
      have hi : i = 0 := by rcases c1 with c1 | c1 <;> omega
      have hj0 : j = 0 := by rcases c1 with c1 | c1 <;> omega
      have k1 : (f :: r1).length = 2 := by rcases c2 with c2 | c2 <;> omega
      have k2 : (f :: r2).length = 2 := by rcases c2 with c2 | c2 <;> omega
      refine h.no ⟨?_, ?_⟩
      · rw [k1] at l1
        cases r1 with
        | nil => simp at k1
        | cons y r1 =>
          cases r1 with
          | nil => rw [show y = l from l1]
          | cons z r1 => simp at k1
      · rw [k2] at l2
        cases r2 with
        | nil => simp at k2
        | cons y r2 =>
          cases r2 with
          | nil => rw [show y = l from l2]
          | cons z r2 => simp at k2
    · have c1 := com (show i < _ by omega) j1 e1
      have c2 := com i1 (show j < _ by omega) e2
      rcases c1 with c1 | c1 <;> rcases c2 with c2 | c2 <;> omega
end
end Vl
set_option maxHeartbeats 2000000
local macro_rules | `(tactic| walk_at "vs") => `(tactic| simp only [Vl.aSeq, Vl.aFor_eq, Vl.aIf, Vl.aB, Vl.aBin, Vl.aUn, Vl.aV, Vl.slotW, Vl.gt_z, Vl.gt_s, Vl.aCB, Vl.aCall, Vl.aCons, Vl.aNil, Vl.argW, Vl.dLt_eq, Vl.dLe_eq, Vl.dGt_eq, Vl.dGe_eq, Vl.dI0, Vl.dI, Vl.dAdd, Vl.dSub_eq, Vl.dMul, Vl.dDiv_eq, Vl.dMod_eq, Vl.dPow_eq, Vl.dShl_eq, Vl.dNeg, Vl.dNot, Vl.dIsN, Vl.dNotN, Vl.dEq, Vl.dNe, Vl.dIn, Vl.dIx, Vl.fLen_lst, Vl.fLen_tup, Vl.fLen_ow, Vl.fLen_bw, Vl.fLen_scr, Vl.fLen_str, Vl.fInt_int, Vl.fInt_bl, Vl.fAbs_int, Vl.fMax_int, Vl.fMin_int, Vl.fGcd_int, Vl.fLcm_int, Vl.fList_lst, Vl.fList_tup, Vl.fList_ow, Vl.fList_bw, Vl.fList_scr, Vl.seqC, Vl.lstC, Vl.itemsC, Vl.clW, Vl.W.toD, Vl.M.toD, Vl.clDs, Option.map_some, Option.map_none,
  Vl.aRet, Vl.aRetV, Vl.aRetN, Vl.aNext, Vl.aBreak, Vl.aCont, Vl.aC, Vl.aSet, Vl.aSetC, Vl.slotA, Vl.aDrop, Vl.aAsgG, Vl.agN, Vl.agT, Vl.agCons, Vl.agNil, Vl.iLst, Vl.iTup, Vl.iR1, Vl.iR2, Vl.aTup, Vl.aLst, Vl.aAnd, Vl.aOr, Vl.aNot, Vl.aAndV, Vl.aOrV, Vl.aIfE, Vl.aSl, Vl.aoS, Vl.aoN, Vl.aChain, Vl.aAugAdd, Vl.aAugSub, Vl.aMut, Vl.aMutS, Vl.mAppend, Vl.mPop, Vl.mPopAt, Vl.mReverse, Vl.tyM, Vl.aFrz, Vl.frz, Vl.aSetIx, Vl.aLc, Vl.wipeA, Vl.aYes,
  List.set_cons_zero, List.set_cons_succ, List.length_map, List.length_cons, List.length_nil, decide_eq_true_eq, Bool.not_true, Bool.not_false, if_true, if_false, Bool.false_eq_true, Vl.okD_int, Vl.okD_bl, Vl.okD_non, Vl.eqD_int, Vl.eqD_bl, Vl.eqD_non, true_and, and_true, Vl.snoc_int, Vl.aIsi, Vl.isi_bl_bool, Vl.isi_bl_int, Vl.isi_int_int, Vl.isi_int_bool, Vl.isi_non_int, Vl.isi_non_bool, Vl.isi_lst_list, Vl.isi_tup_list, Vl.isi_tup_tuple, Vl.isi_non_tuple, Vl.isi_non_list, Vl.isi_str_str, Vl.isi_lst_bool, Vl.isi_str_bool, Vl.isi_tup_bool, Vl.ixD_0, Vl.ixD_1, Vl.ixD_2, Vl.ixD_3, Vl.ixD_4, Vl.ixD_5, Vl.ixD_6, Vl.ixD_7, Vl.ixD_8, Vl.ixD_9, Vl.ixD_10, Vl.ixD_11, Vl.aFld, Vl.aMeth, Vl.aMake, Vl.aMakeK, Vl.mInsert, Vl.aIndex, Vl.fMax1_eq, Vl.fSorted_eq, List.getElem?_cons_zero, List.getElem?_cons_succ, List.cons_append, List.nil_append, Vl.aPar, Vl.aIsO, Vl.dNeS, Vl.aDNew, Vl.dEqO, Vl.aDGet, Vl.aDIx, Vl.dInD, Vl.kidsW, Vl.keyO, Vl.keyF, Vl.keysF, Vl.getK_map, Vl.M.toDs, Vl.refM, Vl.bwM, Vl.owM, Vl.aMakeO, Vl.aSetX, Vl.aSetCX, Vl.aDropX, Vl.aRetX, Vl.aAsgGX, Vl.aIfX, Vl.xP, Vl.tP, Vl.aBX, Vl.aAndX, Vl.aOrX, Vl.aNotX, Vl.aBinX, Vl.aCallL, Vl.aMethL, Vl.alHere, Vl.alCons, Vl.setP, Vl.apV, Vl.apFld, Vl.apIx, Vl.apKey, Vl.aMutP, Vl.aFSet, Vl.aDPutP, Vl.kidW, Vl.putM, Vl.dctM, Vl.aLstO, Vl.aoCons, Vl.aoNil, Vl.aDisp, Vl.dispGo, Vl.iLstG, Vl.xMut, Vl.fLenD, Vl.one, Vl.mRemove, Vl.apW, Vl.allW_nil, Vl.allW_cons, Vl.anHere, Vl.anCons, Vl.aCallN, Vl.aCallF, Vl.clAlls, Vl.clAll, Vl.flatW, Vl.flatD, Vl.flatDs, Bool.and_true, Bool.true_and, Vl.aDNewM, Vl.fSortT_eq, Vl.fSortDT_eq, Vl.fMinD_eq, Vl.fMaxD_eq, Vl.aForX_eq, Vl.aCallK, Vl.aCallD, Vl.xSortPop, Vl.dEqS, Vl.aSlT, Vl.aClE, Vl.aLenSet, Vl.aMakeD])
namespace Vl
open PySem PySem.Spec PyProof.Rows L2
/-! ### separate_paths, walked -/
theorem okD_ks : okD (.str "switch") = true := okD_k false
def SwArc (N : NetV) (i : Nat) (e : Q4) : Prop := ∃ v : Int, (0 ≤ v ∧ v < i) ∧ hostN N v = false ∧ e = ((v, 0), (v, 1))
def LnArc (N : NetV) (f l : Int) (ps : List (Int × Int)) (e : Q4) : Prop := ∃ a b : Int, (a, b) ∈ ps ∧ (a = f ∨ hostN N a = false) ∧ (b = l ∨ hostN N b = false) ∧ e = ((a, 1), (b, 0))
def bothW (w : Ln) : List (Int × Int) := [(w.1, w.2.1), (w.2.1, w.1)]
def c__arcs : Ct := fun ws Q => ∃ (N : NetV) (f l : Int), ws = [.cl (.ins 0 [.lst (N.ks.map kD), .lst (N.ls.map lnD), .int N.pr, .int N.er]), .cl (.int f), .cl (.int l)] ∧ NetW N ∧ ∀ A : List Q4, (∀ e, e ∈ A ↔ IsArc N f l e) → A.length ≤ 200 → Q (.fr (.fl (A.map nkD)))
theorem l__arcs : ∀ ws P, c__arcs ws P → ws.length = 3 := by rintro ws P ⟨N, f, l, rfl, _⟩; rfl
/-- _arcs: slots 0=net 1=first 2=last 3=arcs 4=node 5=line 6=a 7=b 8=leaves 9=enters -/
def a__arcs : AS :=
  aSeq (aSet 3 (aLst (aNil))) (aSeq (aFor (iR1 (aCons (aCB fLen1 (aCons (aFld 0 0 (aV 0)) (aNil))) (aNil))) (agN 4) (aIf (aB (aBin (dEq) (aBin dIx (aFld 0 0 (aV 0)) (aV 4)) (aC (.str "switch")))) (aMut "list" 3 mAppend (aCons (aTup (aCons (aTup (aCons (aV 4) (aCons (aC (.int 0)) (aNil)))) (aCons (aTup (aCons (aV 4) (aCons (aC (.int 1)) (aNil)))) (aNil)))) (aNil))) (aNext))) (aSeq (aFor (iLst (aFld 0 1 (aV 0))) (agN 5) (aFor (iLst (aLst (aCons (aTup (aCons (aBin dIx (aV 5) (aC (.int 0))) (aCons (aBin dIx (aV 5) (aC (.int 1))) (aNil)))) (aCons (aTup (aCons (aBin dIx (aV 5) (aC (.int 1))) (aCons (aBin dIx (aV 5) (aC (.int 0))) (aNil)))) (aNil))))) (agT 2 (agCons (agN 6) (agCons (agN 7) (agNil)))) (aSeq (aSetC 8 (aOrV (aBin (dEq) (aV 6) (aV 1)) (aBin (dEq) (aBin dIx (aFld 0 0 (aV 0)) (aV 6)) (aC (.str "switch"))))) (aSeq (aSetC 9 (aOrV (aBin (dEq) (aV 7) (aV 2)) (aBin (dEq) (aBin dIx (aFld 0 0 (aV 0)) (aV 7)) (aC (.str "switch"))))) (aIf (aAnd (aB (aV 8)) (aB (aV 9))) (aMut "list" 3 mAppend (aCons (aTup (aCons (aTup (aCons (aV 6) (aCons (aC (.int 1)) (aNil)))) (aCons (aTup (aCons (aV 7) (aCons (aC (.int 0)) (aNil)))) (aNil)))) (aNil))) (aNext)))))) (aRetV 3)))
theorem w__arcs : ∀ ws P, c__arcs ws P → a__arcs { nx := fun _ => P (.cl .non), rt := fun w _ => P w } (startA 10 ws) := by
  rintro ws P ⟨N, f, l, rfl, hN, h⟩
  have n60 := hN.n60
  have l60 := hN.l60
  obtain ⟨ND, hND⟩ : ∃ ND, ND = D.ins 0 [.lst (N.ks.map kD), .lst (N.ls.map lnD), .int N.pr, .int N.er] := ⟨_, rfl⟩
  rw [← hND]
  show a__arcs _ [.im ND, .im (.int f), .im (.int l), .non, .non, .non, .non, .non, .non, .non]
  unfold a__arcs
  rw [hND]
  walk_at "vs"
  refine ⟨by decide, by omega, ?_⟩
  refine for_up (fun i δ => ∃ (A : List Q4) (x : AV), δ = [.im (.ins 0 [.lst (N.ks.map kD), .lst (N.ls.map lnD), .int N.pr, .int N.er]), .im (.int f), .im (.int l), .ow false (.fl (A.map nkD)), x, .non, .non, .non, .non, .non] ∧ (∀ e, e ∈ A ↔ SwArc N i e) ∧ A.length ≤ i) ⟨[], _, rfl, fun e => ⟨fun z => (nomatch z), fun ⟨v, q, _⟩ => by omega⟩, Nat.le_refl _⟩ ?_ ?_
  · rintro i δ hi ⟨A, x, rfl, hA, hl⟩
    walk_at "vs"
    rw [ixD_kD (by omega) (by omega)]
    walk_at "vs"
    have e0 : (0 + (i : Int)) = (i : Int) := by omega
    rw [e0]
    simp only [okD_k, okD_ks, eqD_ks, true_and]
    have eh : N.ks.getD ((i : Int)).toNat false = hostN N (i : Int) := rfl
    rw [eh]
    by_cases hb : hostN N (i : Int) = false
    · refine ite_yes (by rw [hb]; rfl) ⟨by decide, by decide, by decide, by omega, A ++ [(((i : Int), 0), ((i : Int), 1))], .im (.int (i : Int)), ?_, fun e => ?_, by rw [List.length_append, List.length_singleton]; omega⟩
      · rw [List.map_append]; rfl
      · rw [List.mem_append, hA, List.mem_singleton]
        constructor
        · rintro (⟨v, q1, q2, q3⟩ | q)
          · exact ⟨v, by omega, q2, q3⟩
          · exact ⟨_, by omega, hb, q⟩
        · rintro ⟨v, q1, q2, q3⟩
          by_cases z : v = (i : Int)
          · subst z; exact .inr q3
          · exact .inl ⟨v, by omega, q2, q3⟩
    · refine ite_no (by simpa using hb) ⟨A, _, rfl, fun e => ?_, by omega⟩
      rw [hA]
      constructor
      · rintro ⟨v, q1, q2, q3⟩
        exact ⟨v, by omega, q2, q3⟩
      · rintro ⟨v, q1, q2, q3⟩
        have : v ≠ (i : Int) := fun z => hb (z ▸ q2)
        exact ⟨v, by omega, q2, q3⟩
  rintro δ ⟨A0, x, rfl, hA0, hl0⟩
  walk_at "vs"
  refine for_map lnD N.ls (fun r δ => ∃ (dn : List Ln) (A : List Q4) (y z u v w : AV), N.ls = dn ++ r ∧ δ = [.im (.ins 0 [.lst (N.ks.map kD), .lst (N.ls.map lnD), .int N.pr, .int N.er]), .im (.int f), .im (.int l), .ow false (.fl (A.map nkD)), x, y, z, u, v, w] ∧ (∀ e, e ∈ A ↔ e ∈ A0 ∨ LnArc N f l (dn.flatMap bothW) e) ∧ A.length ≤ 60 + 2 * dn.length) ⟨[], A0, _, _, _, _, _, rfl, rfl, fun e => ⟨.inl, fun z => z.elim id fun ⟨_, _, q, _⟩ => (nomatch q)⟩, by omega⟩ ?_ ?_
  · rintro ⟨a, b, t⟩ r δ _ ⟨dn, A, y, z, u, v, w, hdn, rfl, hA, hl⟩
    have hw : (a, b, t) ∈ N.ls := by rw [hdn]; simp
    have hdl : dn.length < N.ls.length := by rw [hdn]; simp
    obtain ⟨ra, rb, _⟩ := hN.ln _ hw
    have ra : 0 ≤ a ∧ a < N.ks.length := ra
    have rb : 0 ≤ b ∧ b < N.ks.length := rb
    rw [show lnD (a, b, t) = .tup [.int a, .int b, .int t] from rfl]
    walk_at "vs"
    refine ⟨by decide, by decide, by decide, ?_⟩
    refine for_map pD [(a, b), (b, a)] (fun r2 δ => ∃ (d2 : List (Int × Int)) (A : List Q4) (z u v w : AV), [(a, b), (b, a)] = d2 ++ r2 ∧ δ = [.im (.ins 0 [.lst (N.ks.map kD), .lst (N.ls.map lnD), .int N.pr, .int N.er]), .im (.int f), .im (.int l), .ow false (.fl (A.map nkD)), x, .im (.tup [.int a, .int b, .int t]), z, u, v, w] ∧ (∀ e, e ∈ A ↔ e ∈ A0 ∨ LnArc N f l (dn.flatMap bothW ++ d2) e) ∧ A.length ≤ 60 + 2 * dn.length + d2.length) ⟨[], A, _, _, _, _, rfl, rfl, by rw [List.append_nil]; exact hA, by simpa using hl⟩ ?_ ?_
    · rintro ⟨p, q⟩ r2 δ _ ⟨d2, A, z, u, v, w, hd2, rfl, hA, hl⟩
      have hpq : (p, q) ∈ [(a, b), (b, a)] := by rw [hd2]; simp
      have rng : (0 ≤ p ∧ p < N.ks.length) ∧ (0 ≤ q ∧ q < N.ks.length) := by
        simp only [List.mem_cons, List.not_mem_nil, or_false, Prod.mk.injEq] at hpq
        rcases hpq with ⟨rfl, rfl⟩ | ⟨rfl, rfl⟩
        · exact ⟨ra, rb⟩
        · exact ⟨rb, ra⟩
      have hd2l : d2.length < 2 := by
        have := congrArg List.length hd2
        simp at this
        omega
      rw [show pD (p, q) = .tup [.int p, .int q] from rfl]
      walk_at "vs"
      rw [ixD_kD (ks := N.ks) rng.1.1 rng.1.2, ixD_kD (ks := N.ks) rng.2.1 rng.2.2]
      have yes : (p = f ∨ hostN N p = false) → (q = l ∨ hostN N q = false) → ∀ z u v w : AV, ∃ (d2' : List (Int × Int)) (A' : List Q4) (z' u' v' w' : AV), [(a, b), (b, a)] = d2' ++ r2 ∧ ([.im (.ins 0 [.lst (N.ks.map kD), .lst (N.ls.map lnD), .int N.pr, .int N.er]), .im (.int f), .im (.int l), .ow false (.fl (A.map nkD ++ [D.tup [D.tup [D.int p, D.int 1], D.tup [D.int q, D.int 0]]])), x, .im (.tup [.int a, .int b, .int t]), z, u, v, w] : List AV) = [.im (.ins 0 [.lst (N.ks.map kD), .lst (N.ls.map lnD), .int N.pr, .int N.er]), .im (.int f), .im (.int l), .ow false (.fl (A'.map nkD)), x, .im (.tup [.int a, .int b, .int t]), z', u', v', w'] ∧ (∀ e, e ∈ A' ↔ e ∈ A0 ∨ LnArc N f l (dn.flatMap bothW ++ d2') e) ∧ A'.length ≤ 60 + 2 * dn.length + d2'.length := fun h1 h2 z u v w => by
        refine ⟨d2 ++ [(p, q)], A ++ [((p, 1), (q, 0))], z, u, v, w, by rw [hd2]; simp, by rw [List.map_append]; rfl, fun e => ?_, by rw [List.length_append, List.length_append]; simp; omega⟩
        rw [List.mem_append, hA, List.mem_singleton, ← List.append_assoc]
        constructor
        · rintro ((z | ⟨a', b', m, m1, m2, m3⟩) | z)
          · exact .inl z
          · exact .inr ⟨a', b', List.mem_append_left _ m, m1, m2, m3⟩
          · exact .inr ⟨p, q, List.mem_append_right _ (List.mem_singleton.mpr rfl), h1, h2, z⟩
        · rintro (z | ⟨a', b', m, m1, m2, m3⟩)
          · exact .inl (.inl z)
          · rcases List.mem_append.mp m with m | m
            · exact .inl (.inr ⟨a', b', m, m1, m2, m3⟩)
            · have m := List.mem_singleton.mp m
              cases m
              exact .inr m3
      have no : ¬ ((p = f ∨ hostN N p = false) ∧ (q = l ∨ hostN N q = false)) → ∀ z u v w : AV, ∃ (d2' : List (Int × Int)) (A' : List Q4) (z' u' v' w' : AV), [(a, b), (b, a)] = d2' ++ r2 ∧ ([.im (.ins 0 [.lst (N.ks.map kD), .lst (N.ls.map lnD), .int N.pr, .int N.er]), .im (.int f), .im (.int l), .ow false (.fl (A.map nkD)), x, .im (.tup [.int a, .int b, .int t]), z, u, v, w] : List AV) = [.im (.ins 0 [.lst (N.ks.map kD), .lst (N.ls.map lnD), .int N.pr, .int N.er]), .im (.int f), .im (.int l), .ow false (.fl (A'.map nkD)), x, .im (.tup [.int a, .int b, .int t]), z', u', v', w'] ∧ (∀ e, e ∈ A' ↔ e ∈ A0 ∨ LnArc N f l (dn.flatMap bothW ++ d2') e) ∧ A'.length ≤ 60 + 2 * dn.length + d2'.length := fun h1 z u v w => by
        refine ⟨d2 ++ [(p, q)], A, z, u, v, w, by rw [hd2]; simp, rfl, fun e => ?_, by rw [List.length_append]; omega⟩
        rw [hA, ← List.append_assoc]
        refine or_congr Iff.rfl ⟨fun ⟨a', b', m, m1, m2, m3⟩ => ⟨a', b', List.mem_append_left _ m, m1, m2, m3⟩, fun ⟨a', b', m, m1, m2, m3⟩ => ?_⟩
        rcases List.mem_append.mp m with m | m
        · exact ⟨a', b', m, m1, m2, m3⟩
        · have m := List.mem_singleton.mp m
          cases m
          exact absurd ⟨m1, m2⟩ h1
      have ep : N.ks.getD p.toNat false = hostN N p := rfl
      have eq : N.ks.getD q.toNat false = hostN N q := rfl
      rw [ep, eq]
      by_cases e1 : p = f <;> by_cases e2 : q = l <;> cases hp : hostN N p <;> cases hq : hostN N q
      all_goals
        first | rw [decide_eq_true e1] | rw [decide_eq_false e1]
        first | rw [decide_eq_true e2] | rw [decide_eq_false e2]
        simp only [okD_k, okD_ks, eqD_ks, true_and, Bool.not_false, Bool.not_true]
        first
          | exact ⟨by decide, by decide, by decide, by omega, yes (by first | exact .inl e1 | exact .inr hp) (by first | exact .inl e2 | exact .inr hq) _ _ _ _⟩
          | exact no (by simp [e1, e2, hp, hq]) _ _ _ _
    · rintro δ ⟨d2, A, z, u, v, w, hd2, rfl, hA, hl⟩
      rw [List.append_nil] at hd2
      subst hd2
      refine ⟨dn ++ [(a, b, t)], A, _, _, _, _, _, by rw [hdn]; simp, rfl, fun e => ?_, by rw [List.length_append, List.length_singleton]; simp at hl; omega⟩
      rw [hA, List.flatMap_append]
      simp [bothW]
  rintro δ ⟨dn, A, y, z, u, v, w, hdn, rfl, hA, hl⟩
  rw [List.append_nil] at hdn
  subst hdn
  walk_at "vs"
  refine h A (fun e => ?_) (by omega)
  rw [hA, hA0]
  unfold SwArc LnArc IsArc
  refine or_congr ⟨fun ⟨v, q, z⟩ => ⟨v, by omega, z⟩, fun ⟨v, q, z⟩ => ⟨v, by omega, z⟩⟩ ⟨fun ⟨a, b, m, z⟩ => ⟨a, b, ?_, z⟩, fun ⟨a, b, m, z⟩ => ⟨a, b, ?_, z⟩⟩
  · obtain ⟨w, hw, m⟩ := List.mem_flatMap.mp m
    refine joinL_some.mpr ⟨w, hw, ?_⟩
    simp only [bothW, List.mem_cons, List.not_mem_nil, or_false, Prod.mk.injEq] at m
    rcases m with ⟨m1, m2⟩ | ⟨m1, m2⟩
    · exact .inl ⟨m1.symm, m2.symm⟩
    · exact .inr ⟨m2.symm, m1.symm⟩
  · obtain ⟨w, hw, m⟩ := joinL_some.mp m
    refine List.mem_flatMap.mpr ⟨w, hw, ?_⟩
    simp only [bothW, List.mem_cons, List.not_mem_nil, or_false, Prod.mk.injEq]
    rcases m with ⟨m1, m2⟩ | ⟨m1, m2⟩
    · exact .inl ⟨m1.symm, m2.symm⟩
    · exact .inr ⟨m2.symm, m1.symm⟩
/-! ### _walk -/
def keyS (x : S2) : List Key := [.inl x.1, .inl x.2]
def parD : Option S2 → D
  | none => .non
  | some x => pD x
def befM (L : List (S2 × Option S2)) : M := .fd true (L.map fun e => keyS e.1) (L.map fun e => parD e.2)
def befD (L : List (S2 × Option S2)) : D := .dct true (L.map fun e => keyS e.1) (L.map fun e => parD e.2)
theorem keyS_inj {x y : S2} (h : keyS x = keyS y) : x = y := by
  unfold keyS at h
  simp only [List.cons.injEq, Sum.inl.injEq, and_true] at h
  exact Prod.ext h.1 h.2
theorem keyS_mem {x : S2} {L : List (S2 × Option S2)} : keyS x ∈ (L.map fun e => keyS e.1) ↔ x ∈ L.map (·.1) := by
  rw [List.mem_map, List.mem_map]
  constructor
  · rintro ⟨e, he, q⟩
    exact ⟨e, he, keyS_inj q⟩
  · rintro ⟨e, he, rfl⟩
    exact ⟨e, he, rfl⟩
theorem putVs_new : ∀ {ks : List (List Key)} {ds : List D} {k : List Key} {d : D}, k ∉ ks → ks.length = ds.length → putVs ks ds k d = ds ++ [d]
  | [], [], k, d, _, _ => rfl
  | [], _ :: _, k, d, _, h => by simp at h
  | _ :: _, [], k, d, _, h => by simp at h
  | a :: ks, x :: ds, k, d, hn, h => by
    have : ¬ a = k := fun z => hn (by rw [z]; exact List.mem_cons_self)
    unfold putVs
    rw [if_neg this, putVs_new (fun z => hn (List.mem_cons_of_mem _ z)) (by simpa using h)]
    rfl
theorem befM_put {L : List (S2 × Option S2)} {y x : S2} (h : y ∉ L.map (·.1)) : M.fd true (putKs (L.map fun e => keyS e.1) (keyS y)) (putVs (L.map fun e => keyS e.1) (L.map fun e => parD e.2) (keyS y) (pD x)) = befM (L ++ [(y, some x)]) := by
  have hn : keyS y ∉ (L.map fun e => keyS e.1) := fun z => h (keyS_mem.mp z)
  unfold befM
  rw [putVs_new hn (by simp), List.map_append, List.map_append]
  unfold putKs
  rw [if_neg hn]
  rfl
theorem sub_len {α : Type} [DecidableEq α] : ∀ {l m : List α}, l.Nodup → (∀ x ∈ l, x ∈ m) → l.length ≤ m.length
  | [], _, _, _ => Nat.zero_le _
  | x :: l, m, hn, h => by
    obtain ⟨h1, h2⟩ := List.nodup_cons.mp hn
    have ih := sub_len (l := l) (m := m.erase x) h2 fun y hy => (List.mem_erase_of_ne (fun z : y = x => h1 (by rw [← z]; exact hy))).mpr (h y (List.mem_cons_of_mem _ hy))
    rw [List.length_erase_of_mem (h x List.mem_cons_self)] at ih
    have := List.length_pos_of_mem (h x List.mem_cons_self)
    rw [List.length_cons]
    omega
def bndA (A : List Q4) : Nat := 2 * A.length + 1
theorem Tree.len {A U : List Q4} {s : S2} {L : List (S2 × Option S2)} (h : Tree A U s L) : L.length ≤ bndA A := by
  have hsub : ∀ y ∈ L.map (·.1), y ∈ s :: A.flatMap fun e => [e.1, e.2] := by
    induction h with
    | root =>
      intro y hy
      rw [List.map_singleton, List.mem_singleton] at hy
      rw [hy]; exact List.mem_cons_self
    | add h hx hy r ih =>
      intro z hz
      rw [List.map_append, List.mem_append] at hz
      rcases hz with hz | hz
      · exact ih z hz
      · rw [List.map_singleton, List.mem_singleton] at hz
        rw [hz]
        refine List.mem_cons_of_mem _ (List.mem_flatMap.mpr ?_)
        rcases r with r | r
        · exact ⟨_, r.1, by simp⟩
        · exact ⟨_, r.1, by simp⟩
  have := sub_len h.nodup hsub
  have e : (A.flatMap fun e => [e.1, e.2]).length = 2 * A.length := by
    clear hsub this h
    induction A with
    | nil => rfl
    | cons e A ih => rw [List.flatMap_cons, List.length_append, ih, List.length_cons]; simp; omega
  rw [List.length_map, List.length_cons, e] at this
  exact this
structure BfsI (A U : List Q4) (s : S2) (L : List (S2 × Option S2)) (Q : List S2) : Prop where
  tr : Tree A U s L
  sub : ∀ x ∈ Q, x ∈ L.map (·.1)
  cl : ∀ x ∈ L.map (·.1), x ∉ Q → ∀ y, Res A U x y → y ∈ L.map (·.1)
  ql : Q.length ≤ L.length
/-- x is looked at; the steps in P are done; m: what is left at most -/
structure BfsX (A U : List Q4) (s x : S2) (m : Nat) (P : List Q4) (L : List (S2 × Option S2)) (Q : List S2) : Prop where
  tr : Tree A U s L
  sub : ∀ x ∈ Q, x ∈ L.map (·.1)
  xm : x ∈ L.map (·.1)
  cl : ∀ z ∈ L.map (·.1), z ∉ Q → z ≠ x → ∀ y, Res A U z y → y ∈ L.map (·.1)
  d1 : ∀ e ∈ P, e.1 = x → e ∉ U → e.2 ∈ L.map (·.1)
  d2 : ∀ e ∈ P, e.2 = x → e ∈ U → e.1 ∈ L.map (·.1)
  ms : 2 * (bndA A - L.length) + Q.length ≤ m
  ql : Q.length ≤ L.length
section
variable {A U : List Q4} {s x : S2} {m : Nat} {P : List Q4} {L : List (S2 × Option S2)} {Q : List S2}
theorem BfsX.add (h : BfsX A U s x m P L Q) {y : S2} (hy : y ∉ L.map (·.1)) (r : Res A U x y) : BfsX A U s x m P (L ++ [(y, some x)]) (Q ++ [y]) := by
  have mono : ∀ z, z ∈ L.map (·.1) → z ∈ (L ++ [(y, some x)]).map (·.1) := fun z hz => by rw [List.map_append]; exact List.mem_append_left _ hz
  have new : y ∈ (L ++ [(y, some x)]).map (·.1) := by rw [List.map_append]; exact List.mem_append_right _ (List.mem_singleton.mpr rfl)
  have tr' := h.tr.add h.xm hy r
  refine ⟨tr', fun z hz => ?_, mono _ h.xm, fun z hz hq hx w hw => ?_, fun e he a b => mono _ (h.d1 e he a b), fun e he a b => mono _ (h.d2 e he a b), ?_, by have := h.ql; rw [List.length_append, List.length_append, List.length_singleton, List.length_singleton]; omega⟩
  · rcases List.mem_append.mp hz with q | q
    · exact mono _ (h.sub z q)
    · rw [List.mem_singleton.mp q]; exact new
  · rw [List.map_append, List.mem_append] at hz
    rcases hz with hz | hz
    · exact mono _ (h.cl z hz (fun q => hq (List.mem_append_left _ q)) hx w hw)
    · rw [List.map_singleton, List.mem_singleton] at hz
      exact absurd (by rw [hz]; exact List.mem_append_right _ (List.mem_singleton.mpr rfl)) hq
  · have h1 := h.ms
    have h2 := tr'.len
    rw [List.length_append, List.length_singleton] at h2 ⊢
    rw [List.length_append, List.length_singleton]
    omega
theorem BfsX.fin (h : BfsX A U s x m A L Q) : BfsI A U s L Q := ⟨h.tr, h.sub, fun z hz hq y r => by
  by_cases e : z = x
  · subst e
    rcases r with ⟨r1, r2⟩ | ⟨r1, r2⟩
    · exact h.d1 _ r1 rfl r2
    · exact h.d2 _ r1 rfl r2
  · exact h.cl z hz hq e y r, h.ql⟩
theorem BfsI.pop (h : BfsI A U s L (x :: Q)) : BfsX A U s x (2 * (bndA A - L.length) + Q.length) [] L Q :=
  ⟨h.tr, fun z hz => h.sub z (List.mem_cons_of_mem _ hz), h.sub x List.mem_cons_self, fun z hz hq hx y r => h.cl z hz (fun w => (List.mem_cons.mp w).elim hx hq) y r, fun e he => (nomatch he), fun e he => (nomatch he), Nat.le_refl _, by have := h.ql; rw [List.length_cons] at this; omega⟩
theorem BfsX.skip (h : BfsX A U s x m P L Q) {e : Q4} (h1 : e.1 = x → e ∉ U → e.2 ∈ L.map (·.1)) (h2 : e.2 = x → e ∈ U → e.1 ∈ L.map (·.1)) : BfsX A U s x m (P ++ [e]) L Q :=
  ⟨h.tr, h.sub, h.xm, h.cl, fun d hd => (List.mem_append.mp hd).elim (h.d1 d) fun q => by rw [List.mem_singleton.mp q]; exact h1, fun d hd => (List.mem_append.mp hd).elim (h.d2 d) fun q => by rw [List.mem_singleton.mp q]; exact h2, h.ms, h.ql⟩
theorem BfsI.start : BfsI A U s [(s, none)] [s] := ⟨.root, fun x hx => by rw [List.mem_singleton.mp hx]; exact List.mem_singleton.mpr rfl, fun x hx hq => absurd (by rw [List.map_singleton, List.mem_singleton] at hx; rw [hx]; exact List.mem_singleton.mpr rfl) hq, Nat.le_refl _⟩
end
def c__walk : Ct := fun ws Q => ∃ (A U : List Q4) (s t : S2), ws = [.cl (.lst (A.map nkD)), .ow (.nd U), .cl (.tup [.int s.1, .int s.2]), .cl (.tup [.int t.1, .int t.2])] ∧ A.length ≤ 1000 ∧
  ((∀ R : List S2, s ∈ R → t ∉ R → (∀ x ∈ R, ∀ y, Res A U x y → y ∈ R) → Q (.cl .non)) ∧ ∀ L, Tree A U s L → t ∈ L.map (·.1) → Q (.cl (befD L)))
theorem l__walk : ∀ ws P, c__walk ws P → ws.length = 4 := by rintro ws P ⟨A, U, s, t, rfl, _⟩; rfl
/-- _walk: slots 0=arcs 1=used 2=source 3=sink 4=before 5=waiting 6=here 7=x 8=y -/
def a__walk : AS :=
  aSeq (aSet 4 (aDispT (aV 2) (aC .non))) (aSeq (aSet 5 (aLst (aCons (aV 2) (aNil)))) (aSeq (aWhile (aAnd (aB (aBin (dGt) (aCB fLen1 (aCons (aV 5) (aNil))) (aC (.int 0)))) (aB (aBin (dInD true) (aV 3) (aV 4)))) (aSeq (aMutS "list" 6 5 mPopAt (aCons (aC (.int 0)) (aNil))) (aFor (iLst (aV 0)) (agT 2 (agCons (agN 7) (agCons (agN 8) (agNil)))) (aCut (aIf (aAnd (aB (aBin (dEq) (aV 7) (aV 6))) (aAnd (aB (aBin (dInN true) (aTup (aCons (aV 7) (aCons (aV 8) (aNil)))) (aV 1))) (aB (aBin (dInD true) (aV 8) (aV 4))))) (aSeq (aDPutP (apV 4) (aV 8) (aV 6)) (aMut "list" 5 mAppend (aCons (aV 8) (aNil)))) (aNext)) (aIf (aAnd (aB (aBin (dEq) (aV 8) (aV 6))) (aAnd (aB (aBin (dInN false) (aTup (aCons (aV 7) (aCons (aV 8) (aNil)))) (aV 1))) (aB (aBin (dInD true) (aV 7) (aV 4))))) (aSeq (aDPutP (apV 4) (aV 7) (aV 6)) (aMut "list" 5 mAppend (aCons (aV 7) (aNil)))) (aNext)))))) (aFrz 4 (aRet (aIfE (aB (aBin (dInD false) (aV 3) (aV 4))) (aV 4) (aC .non))))))
theorem w__walk : ∀ ws P, c__walk ws P → a__walk { nx := fun _ => P (.cl .non), rt := fun w _ => P w } (startA 9 ws) := by
  rintro ws P ⟨A, U, s, t, rfl, hA, h1, h2⟩
  show a__walk _ [.im (.lst (A.map nkD)), .bw (.nd U), .im (.tup [.int s.1, .int s.2]), .im (.tup [.int t.1, .int t.2]), .non, .non, .non, .non, .non]
  unfold a__walk
  walk_at "vs"
  simp only [aDispT]
  walk_at "vs"
  refine ⟨by decide, ?_⟩
  refine while_by (fun m δ => ∃ (L : List (S2 × Option S2)) (Q : List S2) (a6 a7 a8 : AV), m = 2 * (bndA A - L.length) + Q.length ∧ δ = [.im (.lst (A.map nkD)), .bw (.nd U), .im (.tup [.int s.1, .int s.2]), .im (.tup [.int t.1, .int t.2]), .ow false (befM L), .ow false (.fl (Q.map pD)), a6, a7, a8] ∧ BfsI A U s L Q) _ ⟨[(s, none)], [s], _, _, _, rfl, rfl, .start⟩ ?_
  rintro m δ ⟨L, Q, a6, a7, a8, rfl, rfl, hI⟩
  have hLl := hI.tr.len
  have hQl := hI.ql
  unfold bndA at hLl
  unfold befM
  walk_at "vs"
  have ek : ∀ x : S2, decide ([Sum.inl x.1, Sum.inl x.2] ∈ (L.map fun e => keyS e.1)) = decide (x ∈ L.map (·.1)) := fun x => decide_eq_decide.mpr (keyS_mem (x := x) (L := L))
  rw [ek t]
  have fin : (t ∉ L.map (·.1) → Q = []) → if [Sum.inl t.1, Sum.inl t.2] ∈ List.map (fun e => keyS e.1) L then P (W.cl (D.dct true (List.map (fun e => keyS e.1) L) (List.map (fun e => parD e.2) L))) else P (W.cl D.non) := fun hq => by
    by_cases ht : t ∈ L.map (·.1)
    · exact ite_yes (keyS_mem.mpr ht) (h2 L hI.tr ht)
    · refine ite_no (fun z => ht (keyS_mem.mp z)) (h1 (L.map (·.1)) ?_ ht fun x hx y r => hI.cl x hx (by rw [hq ht]; exact fun z => nomatch z) y r)
      exact List.mem_map.mpr ⟨_, hI.tr.root_mem, rfl⟩
  cases Q with
  | nil => exact ite_no (by simp) (fin fun _ => rfl)
  | cons x Q =>
    refine ite_yes (by rw [List.length_cons]; omega) ?_
    by_cases ht : t ∈ L.map (·.1)
    · rw [decide_eq_true ht]
      exact ite_no (by decide) (fin fun z => absurd ht z)
    · rw [decide_eq_false ht]
      refine ite_yes rfl ⟨by decide, ?_⟩
      rw [show (List.map pD (x :: Q))[Int.toNat 0]? = some (.tup [.int x.1, .int x.2]) from rfl]
      simp only []
      obtain ⟨m0, hm0⟩ : ∃ m0, m0 = 2 * (bndA A - L.length) + Q.length := ⟨_, rfl⟩
      refine for_map nkD A (fun r δ => ∃ (P : List Q4) (L : List (S2 × Option S2)) (Q : List S2) (a7 a8 : AV), A = P ++ r ∧ δ = [.im (.lst (A.map nkD)), .bw (.nd U), .im (.tup [.int s.1, .int s.2]), .im (.tup [.int t.1, .int t.2]), .ow false (befM L), .ow false (.fl (Q.map pD)), .im (.tup [.int x.1, .int x.2]), a7, a8] ∧ BfsX A U s x m0 P L Q) ⟨[], L, Q, _, _, rfl, rfl, by rw [hm0]; exact hI.pop⟩ ?_ ?_
      · rintro ⟨⟨ea, ei⟩, ⟨eb, ej⟩⟩ r δ _ ⟨P', L, Q, a7, a8, hP, rfl, hX⟩
        have hmem : ((ea, ei), (eb, ej)) ∈ A := by rw [hP]; simp
        have hLl := hX.tr.len
        have hQl := hX.ql
        unfold bndA at hLl
        rw [show nkD ((ea, ei), (eb, ej)) = .tup [.tup [.int ea, .int ei], .tup [.int eb, .int ej]] from rfl]
        walk_at "vs"
        have eS : ∀ a b c d : Int, ((a, b) : S2) = (c, d) ↔ a = c ∧ b = d := fun a b c d => by rw [Prod.mk.injEq]
        refine cut_by (fun δ => ∃ (L : List (S2 × Option S2)) (Q : List S2), δ = [.im (.lst (A.map nkD)), .bw (.nd U), .im (.tup [.int s.1, .int s.2]), .im (.tup [.int t.1, .int t.2]), .ow false (befM L), .ow false (.fl (Q.map pD)), .im (.tup [.int x.1, .int x.2]), .im (.tup [.int ea, .int ei]), .im (.tup [.int eb, .int ej])] ∧ BfsX A U s x m0 P' L Q ∧ ((ea, ei) = x → ((ea, ei), (eb, ej)) ∉ U → ((eb, ej) : S2) ∈ L.map (·.1))) ?_ ?_
        · unfold befM
          walk_at "vs"
          simp only [dInN, ndW, qD]
          walk_at "vs"
          simp only [okD_p2, eqD_p2, true_and]
          have ekb : decide ([Sum.inl eb, Sum.inl ej] ∈ (L.map fun e => keyS e.1)) = decide (((eb, ej) : S2) ∈ L.map (·.1)) := decide_eq_decide.mpr (keyS_mem (x := (eb, ej)) (L := L))
          by_cases c1 : ((ea, ei) : S2) = x
          · refine ite_yes (decide_eq_true (Prod.ext_iff.mp c1)) ⟨by decide, ?_⟩
            by_cases c2 : ((ea, ei), (eb, ej)) ∈ U
            · exact ite_no (by rw [decide_eq_true c2]; decide) ⟨L, Q, rfl, hX, fun _ z => absurd c2 z⟩
            · refine ite_yes (by rw [decide_eq_false c2]; rfl) ?_
              rw [ekb]
              by_cases c3 : ((eb, ej) : S2) ∈ L.map (·.1)
              · exact ite_no (by rw [decide_eq_true c3]; decide) ⟨L, Q, rfl, hX, fun _ _ => c3⟩
              · refine ite_yes (by rw [decide_eq_false c3]; rfl) ⟨by omega, by omega, L ++ [((eb, ej), some x)], Q ++ [(eb, ej)], ?_, hX.add c3 (.inl ⟨by rw [← c1]; exact hmem, by rw [← c1]; exact c2⟩), fun _ _ => by rw [List.map_append]; exact List.mem_append_right _ (List.mem_singleton.mpr rfl)⟩
                rw [List.map_append (f := pD)]
                exact congrArg (fun m => ([.im (.lst (A.map nkD)), .bw (.nd U), .im (.tup [.int s.1, .int s.2]), .im (.tup [.int t.1, .int t.2]), .ow false m, .ow false (.fl (Q.map pD ++ [D.tup [D.int eb, D.int ej]])), .im (.tup [.int x.1, .int x.2]), .im (.tup [.int ea, .int ei]), .im (.tup [.int eb, .int ej])] : List AV)) (befM_put (x := x) c3)
          · exact ite_no (by rw [decide_eq_false (fun z => c1 (Prod.ext_iff.mpr z))]; decide) ⟨L, Q, rfl, hX, fun z => absurd z c1⟩
        · rintro δ ⟨L, Q, rfl, hX, hd⟩
          have hLl := hX.tr.len
          have hQl := hX.ql
          unfold bndA at hLl
          unfold befM
          walk_at "vs"
          simp only [dInN, ndW, qD]
          walk_at "vs"
          simp only [okD_p2, eqD_p2, true_and]
          have eka : decide ([Sum.inl ea, Sum.inl ei] ∈ (L.map fun e => keyS e.1)) = decide (((ea, ei) : S2) ∈ L.map (·.1)) := decide_eq_decide.mpr (keyS_mem (x := (ea, ei)) (L := L))
          have hP2 : A = (P' ++ [((ea, ei), (eb, ej))]) ++ r := by rw [hP]; simp
          by_cases c1 : ((eb, ej) : S2) = x
          · refine ite_yes (decide_eq_true (Prod.ext_iff.mp c1)) ⟨by decide, ?_⟩
            by_cases c2 : ((ea, ei), (eb, ej)) ∈ U
            · refine ite_yes c2 ?_
              rw [eka]
              by_cases c3 : ((ea, ei) : S2) ∈ L.map (·.1)
              · exact ite_no (by rw [decide_eq_true c3]; decide) ⟨_, L, Q, _, _, hP2, rfl, hX.skip hd fun _ _ => c3⟩
              · have hX2 := hX.add c3 (.inr ⟨by rw [← c1]; exact hmem, by rw [← c1]; exact c2⟩)
                refine ite_yes (by rw [decide_eq_false c3]; rfl) ⟨by omega, by omega, _, L ++ [((ea, ei), some x)], Q ++ [(ea, ei)], .im (.tup [.int ea, .int ei]), .im (.tup [.int eb, .int ej]), hP2, ?_, hX2.skip (fun _ z => absurd c2 z) fun _ _ => by rw [List.map_append]; exact List.mem_append_right _ (List.mem_singleton.mpr rfl)⟩
                rw [List.map_append (f := pD)]
                exact congrArg (fun m => ([.im (.lst (A.map nkD)), .bw (.nd U), .im (.tup [.int s.1, .int s.2]), .im (.tup [.int t.1, .int t.2]), .ow false m, .ow false (.fl (Q.map pD ++ [D.tup [D.int ea, D.int ei]])), .im (.tup [.int x.1, .int x.2]), .im (.tup [.int ea, .int ei]), .im (.tup [.int eb, .int ej])] : List AV)) (befM_put (x := x) c3)
            · exact ite_no c2 ⟨_, L, Q, _, _, hP2, rfl, hX.skip hd fun _ z => absurd z c2⟩
          · exact ite_no (by rw [decide_eq_false (fun z => c1 (Prod.ext_iff.mpr z))]; decide) ⟨_, L, Q, _, _, hP2, rfl, hX.skip hd fun z => absurd z c1⟩
      · rintro δ ⟨P', L', Q', b7, b8, hP, rfl, hX⟩
        rw [List.append_nil] at hP
        subst hP
        have := hX.ms
        exact ⟨_, by simp; omega, L', Q', _, _, _, rfl, rfl, hX.fin⟩
/-! ### _add_walk -/
theorem getK_L : ∀ {L : List (S2 × Option S2)} {y : S2} {p : Option S2}, (L.map (·.1)).Nodup → (y, p) ∈ L → getK (L.map fun e => keyS e.1) L (keyS y) = some (y, p)
  | [], _, _, _, h => nomatch h
  | e :: L, y, p, hn, h => by
    obtain ⟨h1, h2⟩ := List.nodup_cons.mp hn
    show (if keyS e.1 = keyS y then some e else getK (L.map fun e => keyS e.1) L (keyS y)) = _
    rcases List.mem_cons.mp h with z | z
    · rw [← z, if_pos rfl]
    · have : ¬ keyS e.1 = keyS y := fun w => h1 (List.mem_map.mpr ⟨_, z, (keyS_inj w).symm⟩)
      rw [if_neg this]
      exact getK_L h2 z
def c__add_walk : LCt := fun m ws Q => ∃ (A U : List Q4) (s t : S2) (L : List (S2 × Option S2)) (xs : List S2), m = .nd U ∧ ws = [.cl (.dct true (L.map fun e => keyS e.1) (L.map fun e => parD e.2)), .cl (.tup [.int t.1, .int t.2])] ∧ Tree A U s L ∧ Back L s t xs ∧ (t :: xs).Nodup ∧ (∀ p, (p, p) ∉ A) ∧ (∀ e ∈ U, e ∈ A) ∧ U.Nodup ∧ U.length + xs.length ≤ 100000 ∧ Q (.cl .non) (.nd (addW U t xs))
theorem l__add_walk : ∀ m ws P, c__add_walk m ws P → ws.length + 1 = 3 := by rintro m ws P ⟨A, U, s, t, L, xs, rfl, rfl, _⟩; rfl
/-- _add_walk: slots 0=used 1=before 2=sink 3=here 4=last -/
def a__add_walk : AS :=
  aSeq (aSetC 3 (aV 2)) (aWhile (aB (aBin (dNotN) (aDIx (aV 1) (aV 3)) (aC .non))) (aSeq (aSetC 4 (aDIx (aV 1) (aV 3))) (aCut (aIf (aB (aBin (dInN false) (aTup (aCons (aV 3) (aCons (aV 4) (aNil)))) (aV 0))) (aNDel (apV 0) (aTup (aCons (aV 3) (aCons (aV 4) (aNil))))) (aNPut (apV 0) (aTup (aCons (aV 4) (aCons (aV 3) (aNil)))) (aC (.bl true)))) (aSetC 3 (aV 4)))))
theorem w__add_walk : ∀ m ws P, c__add_walk m ws P → a__add_walk { nx := fun δ => ∃ m', gt δ 0 = .ow true m' ∧ P (.cl .non) m', rt := fun w δ => ∃ m', gt δ 0 = .ow true m' ∧ P w m' } (startL 5 0 m ws) := by
  rintro m ws P ⟨A, U, s, t, L, xs, rfl, rfl, hT, hB, hn, hirr, hs, hU, hl, h⟩
  obtain ⟨BD, hBD⟩ : ∃ BD, BD = D.dct true (L.map fun e => keyS e.1) (L.map fun e => parD e.2) := ⟨_, rfl⟩
  rw [← hBD]
  show a__add_walk _ [.ow true (.nd U), .im BD, .im (.tup [.int t.1, .int t.2]), .non, .non]
  unfold a__add_walk
  walk_at "vs"
  refine while_by (fun m δ => ∃ (U' : List Q4) (y : S2) (ys : List S2) (a4 : AV), m = ys.length ∧ δ = [.ow true (.nd U'), .im BD, .im (.tup [.int t.1, .int t.2]), .im (.tup [.int y.1, .int y.2]), a4] ∧ addW U' y ys = addW U t xs ∧ Back L s y ys ∧ StepsOk A U' y ys ∧ (∀ e ∈ U', e ∈ A) ∧ U'.Nodup ∧ U'.length + ys.length ≤ 100000) _ ⟨U, t, xs, _, rfl, rfl, rfl, hB, hT.steps hB hn, hs, hU, hl⟩ ?_
  rintro m δ ⟨U', y, ys, a4, rfl, rfl, hw, hB', hS, hs', hU', hl'⟩
  rw [hBD]
  walk_at "vs"
  have hgk : ∀ p, (y, p) ∈ L → getK (L.map fun e => keyS e.1) L [Sum.inl y.1, Sum.inl y.2] = some (y, p) := fun p hp => getK_L hT.nodup hp
  cases hB' with
  | root hr =>
    rw [hgk _ hr]
    rw [← hw] at h
    exact ⟨_, rfl, h⟩
  | @step x _ xs' hr hb =>
    rw [hgk _ hr]
    simp only [Option.map_some]
    rw [show parD (some x) = D.tup [.int x.1, .int x.2] from rfl]
    simp only []
    obtain ⟨a1, a2, a3, a4', a5⟩ := addStep_ok hs' hU' hS.step
    have hS2 := hS.next hirr
    have hw2 : addW (addStep U' y x) x xs' = addW U t xs := hw
    have fin : ∃ m', m' < (x :: xs').length ∧ ∃ (U2 : List Q4) (y' : S2) (ys : List S2) (a4 : AV), m' = ys.length ∧ ([.ow true (.nd (addStep U' y x)), .im (D.dct true (L.map fun e => keyS e.1) (L.map fun e => parD e.2)), .im (.tup [.int t.1, .int t.2]), .im (.tup [.int x.1, .int x.2]), .im (.tup [.int x.1, .int x.2])] : List AV) = [.ow true (.nd U2), .im (D.dct true (L.map fun e => keyS e.1) (L.map fun e => parD e.2)), .im (.tup [.int t.1, .int t.2]), .im (.tup [.int y'.1, .int y'.2]), a4] ∧ addW U2 y' ys = addW U t xs ∧ Back L s y' ys ∧ StepsOk A U2 y' ys ∧ (∀ e ∈ U2, e ∈ A) ∧ U2.Nodup ∧ U2.length + ys.length ≤ 100000 :=
      ⟨_, Nat.lt_succ_self _, _, x, xs', _, rfl, rfl, hw2, hb, hS2, a1, a2, by rw [List.length_cons] at hl'; omega⟩
    refine cut_self ?_
    walk_at "vs"
    simp only [dInN, ndW, qD]
    walk_at "vs"
    refine ⟨by decide, ?_⟩
    by_cases c : (y, x) ∈ U'
    · refine ite_yes c ?_
      rw [show addStep U' y x = delQ U' (y, x) from if_pos c] at fin
      simp only [aNDel]
      walk_at "vs"
      simp only [qD]
      exact ⟨by decide, c, fin⟩
    · refine ite_no c ?_
      rw [show addStep U' y x = U' ++ [(x, y)] from if_neg c] at fin
      rw [List.length_cons] at hl'
      simp only [aNPut]
      walk_at "vs"
      simp only [qD]
      exact ⟨by decide, ⟨a5 c, by omega⟩, fin⟩
/-! ### _followed -/
theorem net_del {W : List Q4} {x y s t : S2} {k : Int} (hn : W.Nodup) (hm : (x, y) ∈ W) (h : ∀ R, netP R W = ind R x - ind R t + k * (ind R s - ind R t)) : ∀ R, netP R (delQ W (x, y)) = ind R y - ind R t + k * (ind R s - ind R t) := fun R => by
  have := countP_del (P := fun e => R e.1) hn hm
  have h5 := countP_del (P := fun e => R e.2) hn hm
  have h6 := h R
  unfold netP ind at h6 ⊢
  simp only at this h5 h6 ⊢
  omega
theorem net_out {W : List Q4} {x s t : S2} {k : Int} (hk : 0 ≤ k) (hx : x ≠ t) (h : ∀ R, netP R W = ind R x - ind R t + k * (ind R s - ind R t)) : ∃ y, (x, y) ∈ W := by
  have h1 := h fun z => decide (z = x)
  have i1 : ind (fun z => decide (z = x)) x = 1 := by unfold ind; rw [if_pos (decide_eq_true rfl)]
  have i2 : ind (fun z => decide (z = x)) t = 0 := by unfold ind; rw [if_neg (by rw [decide_eq_true_eq]; exact fun z => hx z.symm)]
  have i3 : 0 ≤ ind (fun z => decide (z = x)) s := by unfold ind; split <;> decide
  rw [i1, i2] at h1
  generalize ind (fun z => decide (z = x)) s = q at h1 i3
  have h2 : 0 ≤ k * (q - 0) := Int.mul_nonneg hk (by omega)
  have h1 : ((W.countP fun e => decide (e.1 = x)) : Int) - ((W.countP fun e => decide (e.2 = x)) : Int) = 1 - 0 + k * (q - 0) := h1
  have h3 : 0 < W.countP fun e => decide (e.1 = x) := by omega
  obtain ⟨⟨a, b⟩, hm, he⟩ := List.countP_pos_iff.mp h3
  have he : a = x := of_decide_eq_true he
  subst he
  exact ⟨b, hm⟩
theorem nodesOf_snoc (xs : List S2) (y : S2) : nodesOf (xs ++ [y]) = nodesOf xs ++ (if y.2 = 0 then [y.1] else []) := by
  unfold nodesOf
  rw [List.filter_append, List.map_append]
  congr 1
  by_cases h : y.2 = 0
  · simp [h]
  · simp [h]
def c__followed : LCt := fun m ws Q => ∃ (W : List Q4) (s t : S2) (k : Int), m = .nd W ∧ ws = [.cl (.tup [.int s.1, .int s.2]), .cl (.tup [.int t.1, .int t.2])] ∧ W.Nodup ∧ W.length ≤ 100000 ∧ 0 ≤ k ∧ (∀ R, netP R W = ind R s - ind R t + k * (ind R s - ind R t)) ∧ ∀ W' xs, Fol t W s xs W' → Q (.fr (.fl ((s.1 :: nodesOf xs).map .int))) (.nd W')
theorem l__followed : ∀ m ws P, c__followed m ws P → ws.length + 1 = 3 := by rintro m ws P ⟨W, s, t, k, rfl, rfl, _⟩; rfl
/-- _followed: slots 0=used 1=source 2=sink 3=path 4=here 5=x 6=y -/
def a__followed : AS :=
  aSeq (aSet 3 (aLst (aCons (aBin dIx (aV 1) (aC (.int 0))) (aNil)))) (aSeq (aSetC 4 (aV 1)) (aSeq (aWhile (aB (aBin (dNe) (aV 4) (aV 2))) (aSeq (aFor (iLst (aCB fListN (aCons (aV 0) (aNil)))) (agT 2 (agCons (agN 5) (agCons (agN 6) (agNil)))) (aIf (aB (aBin (dEq) (aV 5) (aV 4))) (aSeq (aNDel (apV 0) (aTup (aCons (aV 5) (aCons (aV 6) (aNil))))) (aSeq (aSetC 4 (aV 6)) (aBreak))) (aNext))) (aIf (aB (aBin (dEq) (aBin dIx (aV 4) (aC (.int 1))) (aC (.int 0)))) (aMut "list" 3 mAppend (aCons (aBin dIx (aV 4) (aC (.int 0))) (aNil))) (aNext)))) (aRetV 3)))
theorem w__followed : ∀ m ws P, c__followed m ws P → a__followed { nx := fun δ => ∃ m', gt δ 0 = .ow true m' ∧ P (.cl .non) m', rt := fun w δ => ∃ m', gt δ 0 = .ow true m' ∧ P w m' } (startL 7 0 m ws) := by
  rintro m ws P ⟨W, s, t, k, rfl, rfl, hn, hl, hk, hnet, h⟩
  show a__followed _ [.ow true (.nd W), .im (.tup [.int s.1, .int s.2]), .im (.tup [.int t.1, .int t.2]), .non, .non, .non, .non]
  unfold a__followed
  walk_at "vs"
  refine ⟨by decide, ?_⟩
  refine while_by (fun m δ => ∃ (W1 : List Q4) (pre : List S2) (x : S2) (a5 a6 : AV), m = W1.length ∧ δ = [.ow true (.nd W1), .im (.tup [.int s.1, .int s.2]), .im (.tup [.int t.1, .int t.2]), .ow false (.fl ((s.1 :: nodesOf pre).map .int)), .im (.tup [.int x.1, .int x.2]), a5, a6] ∧ W1.Nodup ∧ W1.length + pre.length ≤ W.length ∧ (∀ R, netP R W1 = ind R x - ind R t + k * (ind R s - ind R t)) ∧ ∀ xs W', Fol t W1 x xs W' → Fol t W s (pre ++ xs) W') _ ⟨W, [], s, _, _, rfl, rfl, hn, Nat.le_refl _, hnet, fun xs W' z => z⟩ ?_
  rintro m δ ⟨W1, pre, x, a5, a6, rfl, rfl, hn1, hl1, hnet1, hf⟩
  walk_at "vs"
  simp only [okD_p2, eqD_p2, true_and]
  by_cases hx : x = t
  · subst hx
    refine ite_no (by simp) ?_
    have := h W1 (pre ++ []) (hf [] W1 .done)
    rw [List.append_nil] at this
    exact ⟨_, rfl, this⟩
  · refine ite_yes (by rw [decide_eq_false (fun z => hx (Prod.ext z.1 z.2))]; rfl) ?_
    simp only [fListN, ndW]
    walk_at "vs"
    refine for_map nkD W1 (fun r δ => ∃ (dn : List Q4) (a5 a6 : AV), W1 = dn ++ r ∧ δ = [.ow true (.nd W1), .im (.tup [.int s.1, .int s.2]), .im (.tup [.int t.1, .int t.2]), .ow false (.fl ((s.1 :: nodesOf pre).map .int)), .im (.tup [.int x.1, .int x.2]), a5, a6] ∧ ∀ e ∈ dn, e.1 ≠ x) ⟨[], _, _, rfl, rfl, fun e he => nomatch he⟩ ?_ ?_
    · rintro ⟨⟨ea, ei⟩, ⟨eb, ej⟩⟩ r δ _ ⟨dn, a5, a6, hdn, rfl, hne⟩
      have hm : ((ea, ei), (eb, ej)) ∈ W1 := by rw [hdn]; simp
      rw [show nkD ((ea, ei), (eb, ej)) = .tup [.tup [.int ea, .int ei], .tup [.int eb, .int ej]] from rfl]
      walk_at "vs"
      simp only [okD_p2, eqD_p2, true_and]
      by_cases c : ((ea, ei) : S2) = x
      · refine ite_yes (decide_eq_true (Prod.ext_iff.mp c)) ?_
        simp only [aNDel]
        walk_at "vs"
        simp only [qD]
        subst c
        have hlen := delQ_len hn1 hm
        have hnet2 := net_del hn1 hm hnet1
        have hfol : ∀ xs W', Fol t (delQ W1 ((ea, ei), (eb, ej))) (eb, ej) xs W' → Fol t W s ((pre ++ [(eb, ej)]) ++ xs) W' := fun xs W' z => by
          rw [List.append_assoc]
          exact hf _ _ (.step hx hm z)
        have hns := nodesOf_snoc pre (eb, ej)
        have hpl : (nodesOf pre).length ≤ pre.length := by unfold nodesOf; rw [List.length_map]; exact List.length_filter_le _ _
        refine ⟨by decide, hm, ?_⟩
        by_cases c0 : ej = 0
        · rw [if_pos c0] at hns
          refine ite_yes c0 ⟨by omega, _, by omega, _, pre ++ [(eb, ej)], (eb, ej), .im (.tup [.int ea, .int ei]), .im (.tup [.int eb, .int ej]), rfl, ?_, delQ_nodup hn1, by rw [List.length_append, List.length_singleton]; omega, hnet2, hfol⟩
          rw [hns]
        · rw [if_neg c0, List.append_nil] at hns
          refine ite_no c0 ⟨_, by omega, _, pre ++ [(eb, ej)], (eb, ej), .im (.tup [.int ea, .int ei]), .im (.tup [.int eb, .int ej]), rfl, ?_, delQ_nodup hn1, by rw [List.length_append, List.length_singleton]; omega, hnet2, hfol⟩
          rw [hns]
      · refine ite_no (by rw [decide_eq_false (fun z => c (Prod.ext_iff.mpr z))]; decide) ⟨dn ++ [((ea, ei), (eb, ej))], _, _, by rw [hdn]; simp, rfl, fun e he => ?_⟩
        rcases List.mem_append.mp he with q | q
        · exact hne e q
        · rw [List.mem_singleton.mp q]; exact c
    · rintro δ ⟨dn, a5, a6, hdn, rfl, hne⟩
      rw [List.append_nil] at hdn
      subst hdn
      obtain ⟨y, hy⟩ := net_out hk hx hnet1
      exact absurd rfl (hne _ hy)
/-! ### separate_paths -/
def rowZ (r : List Int) : D := .lst (r.map .int)
def c_separate_paths : Ct := fun ws Q => ∃ (N : NetV) (f l : Int), ws = [.cl (.ins 0 [.lst (N.ks.map kD), .lst (N.ls.map lnD), .int N.pr, .int N.er]), .cl (.int f), .cl (.int l)] ∧ NetW N ∧ Ends2 N f l ∧
  ((NoWay N c0 f l ∨ Bott N f l) → Q (.cl .non)) ∧ ∀ r1 r2, SepP N f l r1 r2 → Q (.cl (.tup [.lst ((f :: r1).map .int), .lst ((f :: r2).map .int)]))
theorem l_separate_paths : ∀ ws P, c_separate_paths ws P → ws.length = 3 := by rintro ws P ⟨N, f, l, rfl, _⟩; rfl
/-- separate_paths: slots 0=net 1=first 2=last 3=arcs 4=source 5=sink 6=used 7=turn 8=before 9=one -/
def a_separate_paths : AS :=
  aSeq (aSetC 3 (aCall c__arcs (aCons (aV 0) (aCons (aV 1) (aCons (aV 2) (aNil)))))) (aSeq (aSetC 4 (aTup (aCons (aV 1) (aCons (aC (.int 1)) (aNil))))) (aSeq (aSetC 5 (aTup (aCons (aV 2) (aCons (aC (.int 0)) (aNil))))) (aSeq (aSet 6 (aDNewN)) (aSeq (aFor (iR1 (aCons (aC (.int 2)) (aNil))) (agN 7) (aSeq (aSetC 8 (aCall c__walk (aCons (aV 3) (aCons (aV 6) (aCons (aV 4) (aCons (aV 5) (aNil))))))) (aSeq (aIf (aB (aBin (dIsN) (aV 8) (aC .non))) (aRet (aC .non)) (aNext)) (aDropX (aCallL (c__add_walk) (alHere (apV 6) (aCons (aV 8) (aCons (aV 5) (aNil))))))))) (aSeq (aSetCX 9 (aCallL (c__followed) (alHere (apV 6) (aCons (aV 4) (aCons (aV 5) (aNil)))))) (aRetX (aTupX (aV 9) (aCallL (c__followed) (alHere (apV 6) (aCons (aV 4) (aCons (aV 5) (aNil))))))))))))
theorem w_separate_paths : ∀ ws P, c_separate_paths ws P → a_separate_paths { nx := fun _ => P (.cl .non), rt := fun w _ => P w } (startA 10 ws) := by
  rintro ws P ⟨N, f, l, rfl, hN, E, h1, h2⟩
  obtain ⟨ND, hND⟩ : ∃ ND, ND = D.ins 0 [.lst (N.ks.map kD), .lst (N.ls.map lnD), .int N.pr, .int N.er] := ⟨_, rfl⟩
  rw [← hND]
  show a_separate_paths _ [.im ND, .im (.int f), .im (.int l), .non, .non, .non, .non, .non, .non, .non]
  unfold a_separate_paths
  walk_at "vs"
  simp only [aDNewN]
  refine ⟨N, f, l, by rw [hND], hN, fun A hA hAl => ?_⟩
  have hirr : ∀ p, (p, p) ∉ A := fun p z => arc_irr p ((hA _).mp z)
  have hUl : ∀ {U : List Q4} {c : Int}, FlowU A U (f, 1) (l, 0) c → U.length ≤ 200 := fun F => Nat.le_trans (sub_len F.nd F.sub) hAl
  simp only []
  refine ⟨by decide, by decide, by decide, ?_⟩
  refine for_up (fun i δ => ∃ (U : List Q4) (a7 a8 : AV), δ = [.im ND, .im (.int f), .im (.int l), .im (.lst (A.map nkD)), .im (.tup [.int f, .int 1]), .im (.tup [.int l, .int 0]), .ow false (.nd U), a7, a8, .non] ∧ FlowU A U (f, 1) (l, 0) (i : Int) ∧ (i = 0 → U = [])) ⟨[], _, _, rfl, FlowU.none, fun _ => rfl⟩ ?_ ?_
  · rintro i δ hi ⟨U, a7, a8, rfl, F, hz⟩
    have hi : i < 2 := hi
    have hUl := hUl F
    walk_at "vs"
    refine ⟨A, U, (f, 1), (l, 0), rfl, by omega, fun R hs ht hc => ?_, fun L hT ht => ?_⟩
    · walk_at "vs"
      refine h1 ?_
      by_cases i0 : i = 0
      · have := hz i0
        subst this
        exact .inl (cut_none hN E hA R hs ht hc)
      · have : i = 1 := by omega
        subst this
        exact .inr (cut_one hN E hA F R hs ht hc)
    · obtain ⟨xs, hB, hn, hx⟩ := hT.back _ ht
      have hxl := sub_len (List.nodup_cons.mp hn).2 hx
      have hLl := hT.len
      unfold bndA at hLl
      rw [List.length_map] at hxl
      simp only [befD]
      refine ⟨A, U, (f, 1), (l, 0), L, xs, rfl, rfl, hT, hB, hn, hirr, F.sub, F.nd, by omega, addW U (l, 0) xs, _, _, rfl, ?_, fun z => by omega⟩
      have := F.add hirr hT hB hn
      rw [show ((i + 1 : Nat) : Int) = (i : Int) + 1 by omega]
      exact this
  · rintro δ ⟨U, a7, a8, rfl, F, _⟩
    have F : FlowU A U (f, 1) (l, 0) 2 := F
    have hUl2 := hUl F
    walk_at "vs"
    refine ⟨U, (f, 1), (l, 0), 1, rfl, rfl, F.nd, by omega, by decide, fun R => by rw [F.net R]; omega, fun W' xs hF => ?_⟩
    walk_at "vs"
    simp only [aTupX]
    walk_at "vs"
    have hfl := hF.flow (s := (f, 1)) (k := 1) F.nd fun R => by rw [F.net R]; omega
    have hWl : W'.length ≤ 200 := Nat.le_trans (sub_len hfl.1 hF.sub) hUl2
    refine ⟨W', (f, 1), (l, 0), 0, rfl, rfl, hfl.1, by omega, by decide, fun R => by rw [hfl.2 R]; omega, fun W'' ys hG => ?_⟩
    exact h2 _ _ (sep_of E (fun e he => (hA e).mp he) F hF hG)
end Vl
set_option maxHeartbeats 2000000
local macro_rules | `(tactic| walk_at "vs") => `(tactic| simp only [Vl.aSeq, Vl.aFor_eq, Vl.aIf, Vl.aB, Vl.aBin, Vl.aUn, Vl.aV, Vl.slotW, Vl.gt_z, Vl.gt_s, Vl.aCB, Vl.aCall, Vl.aCons, Vl.aNil, Vl.argW, Vl.dLt_eq, Vl.dLe_eq, Vl.dGt_eq, Vl.dGe_eq, Vl.dI0, Vl.dI, Vl.dAdd, Vl.dSub_eq, Vl.dMul, Vl.dDiv_eq, Vl.dMod_eq, Vl.dPow_eq, Vl.dShl_eq, Vl.dNeg, Vl.dNot, Vl.dIsN, Vl.dNotN, Vl.dEq, Vl.dNe, Vl.dIn, Vl.dIx, Vl.fLen_lst, Vl.fLen_tup, Vl.fLen_ow, Vl.fLen_bw, Vl.fLen_scr, Vl.fLen_str, Vl.fInt_int, Vl.fInt_bl, Vl.fAbs_int, Vl.fMax_int, Vl.fMin_int, Vl.fGcd_int, Vl.fLcm_int, Vl.fList_lst, Vl.fList_tup, Vl.fList_ow, Vl.fList_bw, Vl.fList_scr, Vl.seqC, Vl.lstC, Vl.itemsC, Vl.clW, Vl.W.toD, Vl.M.toD, Vl.clDs, Option.map_some, Option.map_none,
  Vl.aRet, Vl.aRetV, Vl.aRetN, Vl.aNext, Vl.aBreak, Vl.aCont, Vl.aC, Vl.aSet, Vl.aSetC, Vl.slotA, Vl.aDrop, Vl.aAsgG, Vl.agN, Vl.agT, Vl.agCons, Vl.agNil, Vl.iLst, Vl.iTup, Vl.iR1, Vl.iR2, Vl.aTup, Vl.aLst, Vl.aAnd, Vl.aOr, Vl.aNot, Vl.aAndV, Vl.aOrV, Vl.aIfE, Vl.aSl, Vl.aoS, Vl.aoN, Vl.aChain, Vl.aAugAdd, Vl.aAugSub, Vl.aMut, Vl.aMutS, Vl.mAppend, Vl.mPop, Vl.mPopAt, Vl.mReverse, Vl.tyM, Vl.aFrz, Vl.frz, Vl.aSetIx, Vl.aLc, Vl.wipeA, Vl.aYes,
  List.set_cons_zero, List.set_cons_succ, List.length_map, List.length_cons, List.length_nil, decide_eq_true_eq, Bool.not_true, Bool.not_false, if_true, if_false, Bool.false_eq_true, Vl.okD_int, Vl.okD_bl, Vl.okD_non, Vl.eqD_int, Vl.eqD_bl, Vl.eqD_non, true_and, and_true, Vl.snoc_int, Vl.aIsi, Vl.isi_bl_bool, Vl.isi_bl_int, Vl.isi_int_int, Vl.isi_int_bool, Vl.isi_non_int, Vl.isi_non_bool, Vl.isi_lst_list, Vl.isi_tup_list, Vl.isi_tup_tuple, Vl.isi_non_tuple, Vl.isi_non_list, Vl.isi_str_str, Vl.isi_lst_bool, Vl.isi_str_bool, Vl.isi_tup_bool, Vl.ixD_0, Vl.ixD_1, Vl.ixD_2, Vl.ixD_3, Vl.ixD_4, Vl.ixD_5, Vl.ixD_6, Vl.ixD_7, Vl.ixD_8, Vl.ixD_9, Vl.ixD_10, Vl.ixD_11, Vl.aFld, Vl.aMeth, Vl.aMake, Vl.aMakeK, Vl.mInsert, Vl.aIndex, Vl.fMax1_eq, Vl.fSorted_eq, List.getElem?_cons_zero, List.getElem?_cons_succ, List.cons_append, List.nil_append, Vl.aPar, Vl.aIsO, Vl.dNeS, Vl.aDNew, Vl.dEqO, Vl.aDGet, Vl.aDIx, Vl.dInD, Vl.kidsW, Vl.keyO, Vl.keyF, Vl.keysF, Vl.getK_map, Vl.M.toDs, Vl.refM, Vl.bwM, Vl.owM, Vl.aMakeO, Vl.aSetX, Vl.aSetCX, Vl.aDropX, Vl.aRetX, Vl.aAsgGX, Vl.aIfX, Vl.xP, Vl.tP, Vl.aBX, Vl.aAndX, Vl.aOrX, Vl.aNotX, Vl.aBinX, Vl.aCallL, Vl.aMethL, Vl.alHere, Vl.alCons, Vl.setP, Vl.apV, Vl.apFld, Vl.apIx, Vl.apKey, Vl.aMutP, Vl.aFSet, Vl.aDPutP, Vl.kidW, Vl.putM, Vl.dctM, Vl.aLstO, Vl.aoCons, Vl.aoNil, Vl.aDisp, Vl.dispGo, Vl.iLstG, Vl.xMut, Vl.fLenD, Vl.one, Vl.mRemove, Vl.apW, Vl.allW_nil, Vl.allW_cons, Vl.anHere, Vl.anCons, Vl.aCallN, Vl.aCallF, Vl.clAlls, Vl.clAll, Vl.flatW, Vl.flatD, Vl.flatDs, Bool.and_true, Bool.true_and, Vl.aDNewM, Vl.fSortT_eq, Vl.fSortDT_eq, Vl.fMinD_eq, Vl.fMaxD_eq, Vl.aForX_eq, Vl.aCallK, Vl.aCallD, Vl.xSortPop, Vl.dEqS, Vl.aSlT, Vl.aClE, Vl.aLenSet, Vl.aMakeD])
namespace Vl
open PySem PySem.Spec PyProof.Rows L2
/-! ### the bottleneck -/
theorem lexLt_anti2 : ∀ {a b : List Int}, a.length = b.length → HT.lexLt a b = false → HT.lexLt b a = false → a = b
  | [], [], _, _, _ => rfl
  | [], _ :: _, h, _, _ => by simp at h
  | _ :: _, [], h, _, _ => by simp at h
  | x :: a, y :: b, h, h1, h2 => by
    rw [HT.lexLt_cons] at h1 h2
    by_cases e : x = y
    · rw [if_pos e] at h1
      rw [if_pos e.symm] at h2
      rw [e, lexLt_anti2 (by simpa using h) h1 h2]
    · rw [if_neg e] at h1
      rw [if_neg (fun z => e z.symm)] at h2
      have := of_decide_eq_false h1
      have := of_decide_eq_false h2
      omega
theorem lexLt_irr : ∀ a : List Int, HT.lexLt a a = false
  | [] => rfl
  | x :: a => by rw [HT.lexLt_cons, if_pos rfl]; exact lexLt_irr a
def prI (p : Int × Int) : List Int := [p.1, p.2]
theorem prI_inj {p q : Int × Int} (h : prI p = prI q) : p = q := by
  unfold prI at h
  injection h with e1 e2
  injection e2 with e2
  exact Prod.ext e1 e2
def pairsN (N : NetV) : List (Int × Int) := N.ls.map fun w => (mnI w.1 w.2.1, mxI w.1 w.2.1)
def cutSw (N : NetV) (f l v : Int) : Prop := NoWay N ⟨[v], none⟩ f l
def cutLn (N : NetV) (f l : Int) (p : Int × Int) : Prop := NoWay N ⟨[], some p⟩ f l
/-- the nodes below i leave a way -/
def NoS (N : NetV) (f l : Int) (i : Int) : Prop := ∀ u : Int, 0 ≤ u → u < i → hostN N u = false → ¬ cutSw N f l u
inductive BotD (N : NetV) (f l : Int) : D → Prop
  | sw {v : Int} : (0 ≤ v ∧ v < N.ks.length) → hostN N v = false → cutSw N f l v → NoS N f l v → BotD N f l (.tup [.str "switch", .int v])
  | ln {a b : Int} : NoS N f l N.ks.length → (a, b) ∈ pairsN N → cutLn N f l (a, b) → (∀ p ∈ pairsN N, cutLn N f l p → HT.lexLt (prI p) (prI (a, b)) = false) → BotD N f l (.tup [.str "line", .int a, .int b])
  | no : NoS N f l N.ks.length → (∀ p ∈ pairsN N, ¬ cutLn N f l p) → BotD N f l .non
section
variable {N : NetV} {f l : Int}
theorem BotD.uniq {d d' : D} (h : BotD N f l d) (h' : BotD N f l d') : d = d' := by
  cases h with
  | @sw v r1 r2 r3 r4 =>
    cases h' with
    | @sw v' q1 q2 q3 q4 =>
      have : v = v' := by
        apply Classical.byContradiction
        intro z
        by_cases y : v < v'
        · exact q4 v r1.1 y r2 r3
        · exact r4 v' q1.1 (by omega) q2 q3
      rw [this]
    | ln q1 => exact absurd r3 (q1 v r1.1 r1.2 r2)
    | no q1 => exact absurd r3 (q1 v r1.1 r1.2 r2)
  | @ln a b r1 r2 r3 r4 =>
    cases h' with
    | @sw v' q1 q2 q3 q4 => exact absurd q3 (r1 v' q1.1 q1.2 q2)
    | @ln a' b' q1 q2 q3 q4 =>
      have e := prI_inj (p := (a, b)) (q := (a', b')) (lexLt_anti2 rfl (q4 (a, b) r2 r3) (r4 (a', b') q2 q3))
      rw [show a = a' from congrArg Prod.fst e, show b = b' from congrArg Prod.snd e]
    | no q1 q2 => exact absurd r3 (q2 _ r2)
  | no r1 r2 =>
    cases h' with
    | @sw v' q1 q2 q3 q4 => exact absurd q3 (r1 v' q1.1 q1.2 q2)
    | @ln a' b' q1 q2 q3 q4 => exact absurd q3 (r2 _ q2)
    | no q1 q2 => rfl
theorem pairs_mem {p : Int × Int} (h : p ∈ pairsN N) : ∃ a b, joinN N a b ≠ none ∧ p = (mnI a b, mxI a b) := by
  obtain ⟨w, hw, rfl⟩ := List.mem_map.mp h
  exact ⟨w.1, w.2.1, joinL_some.mpr ⟨w, hw, .inl ⟨rfl, rfl⟩⟩, rfl⟩
theorem mem_pairs {a b : Int} (h : joinN N a b ≠ none) : (mnI a b, mxI a b) ∈ pairsN N := by
  obtain ⟨w, hw, q⟩ := joinL_some.mp h
  refine List.mem_map.mpr ⟨w, hw, ?_⟩
  rcases q with ⟨q1, q2⟩ | ⟨q1, q2⟩
  · rw [q1, q2]
  · rw [q1, q2, mnI_comm, mxI_comm]
theorem BotD.bott {d : D} (h : BotD N f l d) : d = .non ↔ ¬ Bott N f l := by
  cases h with
  | @sw v r1 r2 r3 r4 => exact ⟨fun z => (nomatch z), fun z => absurd (.inl ⟨v, r1, r2, r3⟩) z⟩
  | @ln a b r1 r2 r3 r4 =>
    refine ⟨fun z => (nomatch z), fun z => absurd ?_ z⟩
    obtain ⟨x, y, h1, h2⟩ := pairs_mem r2
    exact .inr ⟨x, y, h1, by rw [h2] at r3; exact r3⟩
  | no r1 r2 =>
    refine ⟨fun _ => ?_, fun _ => rfl⟩
    rintro (⟨v, h1, h2, h3⟩ | ⟨a, b, h1, h2⟩)
    · exact r1 v h1.1 h1.2 h2 h3
    · exact r2 _ (mem_pairs h1) h2
theorem perm_pr {ms : List (List Int)} {l : List (Int × Int)} (h : ms.Perm (l.map prI)) : ∃ l' : List (Int × Int), l'.Perm l ∧ ms = l'.map prI := by
  let un : List Int → Int × Int := fun x => match x with
    | [a, h] => (a, h)
    | _ => (0, 0)
  have ud : ∀ x, un (prI x) = x := fun x => rfl
  refine ⟨ms.map un, ?_, ?_⟩
  · have := h.map un
    rw [List.map_map, show (un ∘ prI) = id from rfl, List.map_id] at this
    exact this
  · have : ∀ x ∈ ms, prI (un x) = x := fun x hx => by
      obtain ⟨y, _, rfl⟩ := List.mem_map.mp (h.mem_iff.mp hx)
      rw [ud]
    rw [List.map_map]
    conv => lhs; rw [← List.map_id ms]
    exact List.map_congr_left fun x hx => (this x hx).symm
/-- the pairs in order -/
structure SrtP (N : NetV) (ms : List (Int × Int)) : Prop where
  pm : ms.Perm (pairsN N)
  st : ms.Pairwise fun a b => HT.lexLt (prI b) (prI a) = false
theorem SrtP.first {ms dn r : List (Int × Int)} {p : Int × Int} (h : SrtP N ms) (e : ms = dn ++ p :: r) (hd : ∀ q ∈ dn, ¬ cutLn N f l q) : ∀ q ∈ pairsN N, cutLn N f l q → HT.lexLt (prI q) (prI p) = false := fun q hq hc => by
  have hm := h.pm.mem_iff.mpr hq
  rw [e] at hm
  rcases List.mem_append.mp hm with z | z
  · exact absurd hc (hd q z)
  · rcases List.mem_cons.mp z with z | z
    · rw [z]; exact lexLt_irr _
    · have := h.st
      rw [e, List.pairwise_append] at this
      exact (List.pairwise_cons.mp this.2.1).1 q z
end
def c_bottleneck : Ct := fun ws Q => ∃ (N : NetV) (f l : Int), ws = [.cl (.ins 0 [.lst (N.ks.map kD), .lst (N.ls.map lnD), .int N.pr, .int N.er]), .cl (.int f), .cl (.int l)] ∧ NetW N ∧ Ends2 N f l ∧ (NoWay N c0 f l → Q (.cl .non)) ∧ (¬ NoWay N c0 f l → ∀ d, BotD N f l d → Q (.cl d))
theorem l_bottleneck : ∀ ws P, c_bottleneck ws P → ws.length = 3 := by rintro ws P ⟨N, f, l, rfl, _⟩; rfl
/-- bottleneck: slots 0=net 1=first 2=last 3=node 4=a 5=b 6=delay -/
def a_bottleneck : AS :=
  aSeq (aIf (aB (aBin (dIsN) (aCall c_shortest_path (aCons (aV 0) (aCons (aV 1) (aCons (aV 2) (aNil))))) (aC .non))) (aRet (aC .non)) (aNext)) (aSeq (aFor (iR1 (aCons (aCB fLen1 (aCons (aFld 0 0 (aV 0)) (aNil))) (aNil))) (agN 3) (aIf (aAnd (aB (aBin (dEq) (aBin dIx (aFld 0 0 (aV 0)) (aV 3)) (aC (.str "switch")))) (aB (aBin (dIsN) (aCall c__path_without (aCons (aV 0) (aCons (aV 1) (aCons (aV 2) (aCons (aLst (aCons (aV 3) (aNil))) (aCons (aC .non) (aNil))))))) (aC .non)))) (aRet (aTup (aCons (aC (.str "switch")) (aCons (aV 3) (aNil))))) (aNext))) (aSeq (aFor (iLst (aCB fSortT (aCons (aLc (iLstG (aFld 0 1 (aV 0))) (agT 3 (agCons (agN 4) (agCons (agN 5) (agCons (agN 6) (agNil))))) (aYes) (aTup (aCons (aCB fMin2 (aCons (aV 4) (aCons (aV 5) (aNil)))) (aCons (aCB fMax2 (aCons (aV 4) (aCons (aV 5) (aNil)))) (aNil)))) [4, 5, 6]) (aNil)))) (agT 2 (agCons (agN 4) (agCons (agN 5) (agNil)))) (aIf (aB (aBin (dIsN) (aCall c__path_without (aCons (aV 0) (aCons (aV 1) (aCons (aV 2) (aCons (aLst (aNil)) (aCons (aTup (aCons (aV 4) (aCons (aV 5) (aNil)))) (aNil))))))) (aC .non))) (aRet (aTup (aCons (aC (.str "line")) (aCons (aV 4) (aCons (aV 5) (aNil)))))) (aNext))) (aRet (aC .non))))
theorem w_bottleneck : ∀ ws P, c_bottleneck ws P → a_bottleneck { nx := fun _ => P (.cl .non), rt := fun w _ => P w } (startA 7 ws) := by
  rintro ws P ⟨N, f, l, rfl, hN, E, h1, h2⟩
  have n60 := hN.n60
  have l60 := hN.l60
  show a_bottleneck _ [.im (.ins 0 [.lst (N.ks.map kD), .lst (N.ls.map lnD), .int N.pr, .int N.er]), .im (.int f), .im (.int l), .non, .non, .non, .non]
  unfold a_bottleneck
  walk_at "vs"
  refine ⟨N, f, l, rfl, hN, E.hf, E.hl, fun hno => h1 hno, fun st k hD hM => ?_⟩
  have h2 := h2 fun z => z k hM.1
  clear h1
  walk_at "vs"
  refine ⟨by omega, ?_⟩
  refine for_up (fun i δ => (∃ x, δ = [.im (.ins 0 [.lst (N.ks.map kD), .lst (N.ls.map lnD), .int N.pr, .int N.er]), .im (.int f), .im (.int l), x, .non, .non, .non]) ∧ NoS N f l i) ⟨⟨_, rfl⟩, fun u q1 q2 => by omega⟩ ?_ ?_
  · rintro i δ hi ⟨⟨x, rfl⟩, hS⟩
    walk_at "vs"
    rw [ixD_kD (by omega) (by omega)]
    walk_at "vs"
    have e0 : (0 + (i : Int)) = (i : Int) := by omega
    rw [e0]
    simp only [okD_k, okD_ks, eqD_ks, true_and]
    have eh : N.ks.getD ((i : Int)).toNat false = hostN N (i : Int) := rfl
    rw [eh]
    have nxt : (hostN N (i : Int) = false → ¬ cutSw N f l (i : Int)) → NoS N f l ((i + 1 : Nat) : Int) := fun q u q1 q2 q3 => by
      by_cases z : u = (i : Int)
      · rw [z] at q3 ⊢; exact q q3
      · exact hS u q1 (by omega) q3
    by_cases hb : hostN N (i : Int) = false
    · refine ite_yes (by rw [hb]; rfl) ⟨by decide, N, f, l, ⟨[(i : Int)], none⟩, rfl, hN, E.hf, E.hl, by show 1 ≤ 1000; decide, fun hno => ?_, fun st k hD hM => ?_⟩
      · exact ⟨by decide, h2 _ (.sw (by omega) hb hno hS)⟩
      · exact ⟨rfl, ⟨_, rfl⟩, nxt fun _ z => z k hM.1⟩
    · exact ite_no (by simpa using hb) ⟨⟨_, rfl⟩, nxt fun z => absurd z hb⟩
  rintro δ ⟨⟨x, rfl⟩, hS⟩
  have hS : NoS N f l N.ks.length := by have e : (((N.ks.length : Int)).toNat : Int) = N.ks.length := by omega
                                        rw [e] at hS; exact hS
  walk_at "vs"
  refine lc_all lnD (fun w => pD (mnI w.1 w.2.1, mxI w.1 w.2.1)) N.ls (by omega) (fun w hw K hK => ?_) ?_
  · obtain ⟨a, b, t⟩ := w
    rw [show lnD (a, b, t) = .tup [.int a, .int b, .int t] from rfl]
    walk_at "vs"
    exact ⟨by decide, hK⟩
  walk_at "vs"
  refine ⟨2, (pairsN N).map prI, by decide, by unfold pairsN; rw [List.map_map, List.map_map]; rfl, fun k hk => ?_, fun ms hp hms => ?_⟩
  · obtain ⟨x, _, rfl⟩ := List.mem_map.mp hk; rfl
  obtain ⟨m, hm, rfl⟩ := perm_pr hp
  have hst : SrtP N m := ⟨hm, List.pairwise_map.mp hms⟩
  rw [show (m.map prI).map tupI = m.map pD by rw [List.map_map]; rfl]
  refine for_map pD m (fun r δ => ∃ (dn : List (Int × Int)) (x4 x5 : AV), m = dn ++ r ∧ δ = [.im (.ins 0 [.lst (N.ks.map kD), .lst (N.ls.map lnD), .int N.pr, .int N.er]), .im (.int f), .im (.int l), x, x4, x5, .non] ∧ ∀ q ∈ dn, ¬ cutLn N f l q) ⟨[], _, _, rfl, rfl, fun q hq => nomatch hq⟩ ?_ ?_
  · rintro ⟨a, b⟩ r δ _ ⟨dn, x4, x5, hdn, rfl, hd⟩
    rw [show pD (a, b) = .tup [.int a, .int b] from rfl]
    walk_at "vs"
    refine ⟨by decide, by decide, N, f, l, ⟨[], some (a, b)⟩, rfl, hN, E.hf, E.hl, by show 0 ≤ 1000; decide, fun hno => ?_, fun st k hD hM => ?_⟩
    · exact ⟨by decide, h2 _ (.ln hS (hm.mem_iff.mp (by rw [hdn]; simp)) hno (hst.first hdn hd))⟩
    · refine ⟨rfl, dn ++ [(a, b)], _, _, by rw [hdn]; simp, rfl, fun q hq => ?_⟩
      rcases List.mem_append.mp hq with z | z
      · exact hd q z
      · rw [List.mem_singleton.mp z]
        exact fun z => z k hM.1
  · rintro δ ⟨dn, x4, x5, hdn, rfl, hd⟩
    rw [List.append_nil] at hdn
    subst hdn
    walk_at "vs"
    exact h2 _ (.no hS fun q hq => hd q (hm.mem_iff.mpr hq))
end Vl
set_option maxHeartbeats 2000000
local macro_rules | `(tactic| walk_at "vs") => `(tactic| simp only [Vl.aSeq, Vl.aFor_eq, Vl.aIf, Vl.aB, Vl.aBin, Vl.aUn, Vl.aV, Vl.slotW, Vl.gt_z, Vl.gt_s, Vl.aCB, Vl.aCall, Vl.aCons, Vl.aNil, Vl.argW, Vl.dLt_eq, Vl.dLe_eq, Vl.dGt_eq, Vl.dGe_eq, Vl.dI0, Vl.dI, Vl.dAdd, Vl.dSub_eq, Vl.dMul, Vl.dDiv_eq, Vl.dMod_eq, Vl.dPow_eq, Vl.dShl_eq, Vl.dNeg, Vl.dNot, Vl.dIsN, Vl.dNotN, Vl.dEq, Vl.dNe, Vl.dIn, Vl.dIx, Vl.fLen_lst, Vl.fLen_tup, Vl.fLen_ow, Vl.fLen_bw, Vl.fLen_scr, Vl.fLen_str, Vl.fInt_int, Vl.fInt_bl, Vl.fAbs_int, Vl.fMax_int, Vl.fMin_int, Vl.fGcd_int, Vl.fLcm_int, Vl.fList_lst, Vl.fList_tup, Vl.fList_ow, Vl.fList_bw, Vl.fList_scr, Vl.seqC, Vl.lstC, Vl.itemsC, Vl.clW, Vl.W.toD, Vl.M.toD, Vl.clDs, Option.map_some, Option.map_none,
  Vl.aRet, Vl.aRetV, Vl.aRetN, Vl.aNext, Vl.aBreak, Vl.aCont, Vl.aC, Vl.aSet, Vl.aSetC, Vl.slotA, Vl.aDrop, Vl.aAsgG, Vl.agN, Vl.agT, Vl.agCons, Vl.agNil, Vl.iLst, Vl.iTup, Vl.iR1, Vl.iR2, Vl.aTup, Vl.aLst, Vl.aAnd, Vl.aOr, Vl.aNot, Vl.aAndV, Vl.aOrV, Vl.aIfE, Vl.aSl, Vl.aoS, Vl.aoN, Vl.aChain, Vl.aAugAdd, Vl.aAugSub, Vl.aMut, Vl.aMutS, Vl.mAppend, Vl.mPop, Vl.mPopAt, Vl.mReverse, Vl.tyM, Vl.aFrz, Vl.frz, Vl.aSetIx, Vl.aLc, Vl.wipeA, Vl.aYes,
  List.set_cons_zero, List.set_cons_succ, List.length_map, List.length_cons, List.length_nil, decide_eq_true_eq, Bool.not_true, Bool.not_false, if_true, if_false, Bool.false_eq_true, Vl.okD_int, Vl.okD_bl, Vl.okD_non, Vl.eqD_int, Vl.eqD_bl, Vl.eqD_non, true_and, and_true, Vl.snoc_int, Vl.aIsi, Vl.isi_bl_bool, Vl.isi_bl_int, Vl.isi_int_int, Vl.isi_int_bool, Vl.isi_non_int, Vl.isi_non_bool, Vl.isi_lst_list, Vl.isi_tup_list, Vl.isi_tup_tuple, Vl.isi_non_tuple, Vl.isi_non_list, Vl.isi_str_str, Vl.isi_lst_bool, Vl.isi_str_bool, Vl.isi_tup_bool, Vl.ixD_0, Vl.ixD_1, Vl.ixD_2, Vl.ixD_3, Vl.ixD_4, Vl.ixD_5, Vl.ixD_6, Vl.ixD_7, Vl.ixD_8, Vl.ixD_9, Vl.ixD_10, Vl.ixD_11, Vl.aFld, Vl.aMeth, Vl.aMake, Vl.aMakeK, Vl.mInsert, Vl.aIndex, Vl.fMax1_eq, Vl.fSorted_eq, List.getElem?_cons_zero, List.getElem?_cons_succ, List.cons_append, List.nil_append, Vl.aPar, Vl.aIsO, Vl.dNeS, Vl.aDNew, Vl.dEqO, Vl.aDGet, Vl.aDIx, Vl.dInD, Vl.kidsW, Vl.keyO, Vl.keyF, Vl.keysF, Vl.getK_map, Vl.M.toDs, Vl.refM, Vl.bwM, Vl.owM, Vl.aMakeO, Vl.aSetX, Vl.aSetCX, Vl.aDropX, Vl.aRetX, Vl.aAsgGX, Vl.aIfX, Vl.xP, Vl.tP, Vl.aBX, Vl.aAndX, Vl.aOrX, Vl.aNotX, Vl.aBinX, Vl.aCallL, Vl.aMethL, Vl.alHere, Vl.alCons, Vl.setP, Vl.apV, Vl.apFld, Vl.apIx, Vl.apKey, Vl.aMutP, Vl.aFSet, Vl.aDPutP, Vl.kidW, Vl.putM, Vl.dctM, Vl.aLstO, Vl.aoCons, Vl.aoNil, Vl.aDisp, Vl.dispGo, Vl.iLstG, Vl.xMut, Vl.fLenD, Vl.one, Vl.mRemove, Vl.apW, Vl.allW_nil, Vl.allW_cons, Vl.anHere, Vl.anCons, Vl.aCallN, Vl.aCallF, Vl.clAlls, Vl.clAll, Vl.flatW, Vl.flatD, Vl.flatDs, Bool.and_true, Bool.true_and, Vl.aDNewM, Vl.fSortT_eq, Vl.fSortDT_eq, Vl.fMinD_eq, Vl.fMaxD_eq, Vl.aForX_eq, Vl.aCallK, Vl.aCallD, Vl.xSortPop, Vl.dEqS, Vl.aSlT, Vl.aClE, Vl.aLenSet, Vl.aMakeD])
namespace Vl
open PySem PySem.Spec PyProof.Rows L2
/-! ### what is reached without a node and a line -/
structure StepC (N : NetV) (c : CutV) (f x y : Int) : Prop where
  lk : LinkC N c x y
  lv : x = f ∨ hostN N x = false
  nw : y ∉ c.wo
inductive Fwd (N : NetV) (c : CutV) (f : Int) : Int → Prop
  | root : Fwd N c f f
  | step {x y : Int} : Fwd N c f x → StepC N c f x y → Fwd N c f y
section
variable {N : NetV} {c : CutV} {f l : Int}
theorem Fwd.nwo (hf : f ∉ c.wo) {y : Int} (h : Fwd N c f y) : y ∉ c.wo := by
  cases h with
  | root => exact hf
  | step _ s => exact s.nw
theorem Fwd.way (hf : f ∉ c.wo) {y : Int} (h : Fwd N c f y) : ∀ r, WayL N c l (y :: r) → (y = l ∨ hostN N y = false ∨ y = f) → ∃ r', WayL N c l (f :: r') := by
  induction h with
  | root => exact fun r h _ => ⟨r, h⟩
  | @step x y hx s ih =>
    intro r h hy
    by_cases e : y = f
    · subst e; exact ⟨r, h⟩
    · refine ih (y :: r) ⟨hx.nwo hf, s.lk, ?_, h⟩ (s.lv.elim (fun z => .inr (.inr z)) fun z => .inr (.inl z))
      rcases hy with z | z | z
      · exact .inl z
      · exact .inr z
      · exact absurd z e
theorem fwd_of (hl : l ∉ c.wo) : ∀ {r : List Int} {v : Int}, WayL N c l (v :: r) → Fwd N c f v → (v = f ∨ hostN N v = false) → Fwd N c f l
  | [], v, h, hv, _ => by rw [← show v = l from h]; exact hv
  | y :: r, v, h, hv, hs => by
    obtain ⟨h1, h2, h3, h4⟩ := h
    by_cases e : y = l
    · subst e
      exact .step hv ⟨h2, hs, hl⟩
    · have hy : hostN N y = false := h3.elim (fun z => absurd z e) id
      refine fwd_of hl h4 (.step hv ⟨h2, hs, ?_⟩) (.inr hy)
      cases r with
      | nil => exact absurd h4 e
      | cons z r => exact h4.1
theorem fwd_iff (hf : f ∉ c.wo) (hl : l ∉ c.wo) : Fwd N c f l ↔ ¬ NoWay N c f l := by
  constructor
  · intro h z
    obtain ⟨r', h'⟩ := h.way hf [] rfl (.inl rfl)
    exact z r'.length ⟨r', rfl, h'⟩
  · intro h
    apply Classical.byContradiction
    intro z
    refine h fun k => ?_
    rintro ⟨r, _, hw⟩
    exact z (fwd_of hl hw .root (.inl rfl))
def ClosedF (N : NetV) (c : CutV) (f : Int) (F : List Int) : Prop := ∀ x ∈ F, ∀ y, StepC N c f x y → y ∈ F
structure OpenT (N : NetV) (c : CutV) (f : Int) (t : Nat) (F : List Int) : Prop where
  nd : F.Nodup
  fw : ∀ y ∈ F, Fwd N c f y
  rg : ∀ y ∈ F, 0 ≤ y ∧ y < N.ks.length
  rt : f ∈ F
  cl : ClosedF N c f F ∨ t + 1 ≤ F.length
/-- one round: M so far; the steps over the lines in dn are looked at -/
structure OpenM (N : NetV) (c : CutV) (f : Int) (F : List Int) (ps : List (Int × Int)) (M : List Int) : Prop where
  nd : M.Nodup
  dj : ∀ y ∈ M, y ∉ F
  fr : ∀ y ∈ M, ∃ x ∈ F, StepC N c f x y
  al : ∀ p ∈ ps, p.1 ∈ F → StepC N c f p.1 p.2 → p.2 ∈ F ∨ p.2 ∈ M
theorem OpenT.next (hN : NetW N) {t : Nat} {F M : List Int} (h : OpenT N c f t F) (m : OpenM N c f F (N.ls.flatMap bothW) M) : OpenT N c f (t + 1) (F ++ M) := by
  have al : ∀ x ∈ F, ∀ y, StepC N c f x y → y ∈ F ∨ y ∈ M := fun x hx y s => by
    refine m.al (x, y) ?_ hx s
    obtain ⟨w, hw, q⟩ := joinL_some.mp s.lk.1
    refine List.mem_flatMap.mpr ⟨w, hw, ?_⟩
    simp only [bothW, List.mem_cons, List.not_mem_nil, or_false, Prod.mk.injEq]
    rcases q with ⟨q1, q2⟩ | ⟨q1, q2⟩
    · exact .inl ⟨q1.symm, q2.symm⟩
    · exact .inr ⟨q2.symm, q1.symm⟩
  refine ⟨?_, fun y hy => ?_, fun y hy => ?_, List.mem_append_left _ h.rt, ?_⟩
  · rw [List.nodup_append]
    exact ⟨h.nd, m.nd, fun a ha b hb e => m.dj b hb (e ▸ ha)⟩
  · rcases List.mem_append.mp hy with q | q
    · exact h.fw y q
    · obtain ⟨x, hx, s⟩ := m.fr y q
      exact .step (h.fw x hx) s
  · rcases List.mem_append.mp hy with q | q
    · exact h.rg y q
    · obtain ⟨x, hx, s⟩ := m.fr y q
      exact (join_in hN s.lk.1).2
  · cases M with
    | nil =>
      refine .inl fun x hx y s => ?_
      rw [List.append_nil] at hx ⊢
      exact (al x hx y s).elim id fun z => nomatch z
    | cons z M =>
      rcases h.cl with q | q
      · obtain ⟨x, hx, s⟩ := m.fr z List.mem_cons_self
        exact absurd (q x hx z s) (m.dj z List.mem_cons_self)
      · exact .inr (by rw [List.length_append, List.length_cons]; omega)
theorem OpenT.fin {F : List Int} (h : OpenT N c f N.ks.length F) {y : Int} : y ∈ F ↔ Fwd N c f y := by
  have hc : ClosedF N c f F := by
    rcases h.cl with q | q
    · exact q
    · have := range_le h.nd h.rg
      omega
  refine ⟨h.fw y, fun z => ?_⟩
  induction z with
  | root => exact h.rt
  | step _ s ih => exact hc _ ih _ s
end
/-- the line as it stands in the list -/
def LineOk (N : NetV) : Option (Int × Int) → Prop
  | none => True
  | some p => ∃ w ∈ N.ls, p = (w.1, w.2.1)
def cutOf (nd : Option Int) (ln : Option (Int × Int)) : CutV := ⟨nd.toList, ln.map fun p => (mnI p.1 p.2, mxI p.1 p.2)⟩
theorem normL_mx (w : Ln) : normL w = (mxI w.1 w.2.1, mnI w.1 w.2.1) := by
  unfold normL mxI mnI
  split <;> split <;> first | rfl | (exfalso; omega) | (rw [show w.2.1 = w.1 by omega])
theorem line_same {N : NetV} (hN : NetW N) {w w' : Ln} (h : w ∈ N.ls) (h' : w' ∈ N.ls) (e : (mnI w.1 w.2.1, mxI w.1 w.2.1) = (mnI w'.1 w'.2.1, mxI w'.1 w'.2.1)) : w = w' := by
  have e1 : normL w = normL w' := by
    rw [normL_mx w, normL_mx w', show mnI w.1 w.2.1 = mnI w'.1 w'.2.1 from congrArg Prod.fst e, show mxI w.1 w.2.1 = mxI w'.1 w'.2.1 from congrArg Prod.snd e]
  have key : ∀ {ls : List Ln}, (ls.map normL).Nodup → w ∈ ls → w' ∈ ls → w = w' := fun {ls} hn a b => by
    induction ls with
    | nil => cases a
    | cons u ls ih =>
      obtain ⟨n1, n2⟩ := List.nodup_cons.mp hn
      rcases List.mem_cons.mp a with a | a <;> rcases List.mem_cons.mp b with b | b
      · rw [a, b]
      · exact absurd (List.mem_map.mpr ⟨w', b, by rw [← e1, a]⟩) n1
      · exact absurd (List.mem_map.mpr ⟨w, a, by rw [e1, b]⟩) n1
      · exact ih n2 a b
  exact key hN.nd h h'
theorem eqD_line (a b : Int) (q : Option (Int × Int)) : eqD (.tup [.int a, .int b]) (cutD2 q) = decide (q = some (a, b)) := by
  cases q with
  | none => exact (decide_eq_false (fun z => nomatch z)).symm
  | some p =>
    refine (eqD_p2 a b p.1 p.2).trans (decide_eq_decide.mpr ⟨fun z => by rw [z.1, z.2], fun z => ?_⟩)
    injection z with z
    rw [z]
    exact ⟨rfl, rfl⟩
theorem eqD_node (q : Int) (nd : Option Int) : eqD (.int q) (optI nd) = decide (q ∈ nd.toList) := by
  cases nd with
  | none => exact (decide_eq_false (fun z => nomatch z)).symm
  | some v => exact (eqD_int q v).trans (decide_eq_decide.mpr (by simp [Option.toList]))
theorem okD_node (nd : Option Int) : okD (optI nd) = true := by cases nd <;> rfl
def c__law_open : Ct := fun ws Q => ∃ (N : NetV) (f l : Int) (nd : Option Int) (ln : Option (Int × Int)), ws = [.cl (.ins 0 [.lst (N.ks.map kD), .lst (N.ls.map lnD), .int N.pr, .int N.er]), .cl (.int f), .cl (.int l), .cl (optI nd), .cl (cutD2 ln)] ∧ NetW N ∧ Ends2 N f l ∧ (∀ v, nd = some v → hostN N v = false) ∧ LineOk N ln ∧ ∀ b : Bool, (b = true ↔ ¬ NoWay N (cutOf nd ln) f l) → Q (.cl (.bl b))
theorem l__law_open : ∀ ws P, c__law_open ws P → ws.length = 5 := by rintro ws P ⟨N, f, l, nd, ln, rfl, _⟩; rfl
/-- _law_open: slots 0=_law_net_here 1=_law_first 2=_law_last 3=_law_node 4=_law_line 5=_law_found 6=_law_turn 7=_law_more 8=_law_a 9=_law_b 10=_law_ticks 11=_law_x 12=_law_y -/
def a__law_open : AS :=
  aSeq (aSetC 5 (aLst (aCons (aV 1) (aNil)))) (aSeq (aFor (iR1 (aCons (aCB fLen1 (aCons (aFld 0 0 (aV 0)) (aNil))) (aNil))) (agN 6) (aSeq (aSet 7 (aLst (aNil))) (aSeq (aFor (iLst (aFld 0 1 (aV 0))) (agT 3 (agCons (agN 8) (agCons (agN 9) (agCons (agN 10) (agNil))))) (aFor (iLst (aLst (aCons (aTup (aCons (aV 8) (aCons (aV 9) (aNil)))) (aCons (aTup (aCons (aV 9) (aCons (aV 8) (aNil)))) (aNil))))) (agT 2 (agCons (agN 11) (agCons (agN 12) (agNil)))) (aIf (aAnd (aB (aBin (dIn false) (aV 11) (aV 5))) (aAnd (aB (aBin (dIn true) (aV 12) (aV 5))) (aAnd (aB (aBin (dIn true) (aV 12) (aV 7))) (aAnd (aB (aBin (dNe) (aV 12) (aV 3))) (aB (aBin (dNe) (aTup (aCons (aV 8) (aCons (aV 9) (aNil)))) (aV 4))))))) (aIf (aOr (aB (aBin (dEq) (aV 11) (aV 1))) (aB (aBin (dEq) (aBin dIx (aFld 0 0 (aV 0)) (aV 11)) (aC (.str "switch"))))) (aMut "list" 7 mAppend (aCons (aV 12) (aNil))) (aNext)) (aNext)))) (aSetC 5 (aBin dAdd (aV 5) (aV 7)))))) (aRet (aBin (dIn false) (aV 2) (aV 5))))
theorem w__law_open : ∀ ws P, c__law_open ws P → a__law_open { nx := fun _ => P (.cl .non), rt := fun w _ => P w } (startA 13 ws) := by
  rintro ws P ⟨N, f, l, nd, ln, rfl, hN, E, hnd, hln, h⟩
  have n60 := hN.n60
  have l60 := hN.l60
  obtain ⟨ND, hND⟩ : ∃ ND, ND = D.ins 0 [.lst (N.ks.map kD), .lst (N.ls.map lnD), .int N.pr, .int N.er] := ⟨_, rfl⟩
  rw [← hND]
  show a__law_open _ [.im ND, .im (.int f), .im (.int l), .im (optI nd), .im (cutD2 ln), .non, .non, .non, .non, .non, .non, .non, .non]
  obtain ⟨c, hc⟩ : ∃ c, c = cutOf nd ln := ⟨_, rfl⟩
  rw [← hc] at h
  have hfw : f ∉ c.wo := fun z => by
    rw [hc] at z
    cases nd with
    | none => exact nomatch z
    | some v =>
      have z := List.mem_singleton.mp z
      have := hnd v rfl
      rw [← z, E.ff] at this
      cases this
  have hlw : l ∉ c.wo := fun z => by
    rw [hc] at z
    cases nd with
    | none => exact nomatch z
    | some v =>
      have z := List.mem_singleton.mp z
      have := hnd v rfl
      rw [← z, E.ll] at this
      cases this
  unfold a__law_open
  rw [hND]
  walk_at "vs"
  refine ⟨by decide, by omega, ?_⟩
  rw [← hND]
  refine for_up (fun i δ => ∃ (F : List Int) (x6 x7 x8 x9 x10 x11 x12 : AV), δ = [.im ND, .im (.int f), .im (.int l), .im (optI nd), .im (cutD2 ln), .im (.lst (F.map .int)), x6, x7, x8, x9, x10, x11, x12] ∧ OpenT N c f i F) ⟨[f], _, _, _, _, _, _, _, rfl, List.nodup_cons.mpr ⟨List.not_mem_nil, List.nodup_nil⟩, fun y hy => by rw [List.mem_singleton.mp hy]; exact .root, fun y hy => by rw [List.mem_singleton.mp hy]; exact E.hf, List.mem_singleton.mpr rfl, .inr (Nat.le_refl _)⟩ ?_ ?_
  · rintro i δ hi ⟨F, x6, x7, x8, x9, x10, x11, x12, rfl, hT⟩
    have hFl := range_le hT.nd hT.rg
    rw [hND]
    walk_at "vs"
    refine ⟨by decide, ?_⟩
    rw [← hND]
    refine for_map lnD N.ls (fun r δ => ∃ (dn : List Ln) (M : List Int) (x8 x9 x10 x11 x12 : AV), N.ls = dn ++ r ∧ δ = [.im ND, .im (.int f), .im (.int l), .im (optI nd), .im (cutD2 ln), .im (.lst (F.map .int)), .im (.int (0 + (i : Int))), .ow false (.fl (M.map .int)), x8, x9, x10, x11, x12] ∧ OpenM N c f F (dn.flatMap bothW) M) ⟨[], [], _, _, _, _, _, rfl, rfl, List.nodup_nil, fun y hy => (nomatch hy), fun y hy => (nomatch hy), fun p hp => nomatch hp⟩ ?_ ?_
    · rintro ⟨a, b, t⟩ r δ _ ⟨dn, M, x8, x9, x10, x11, x12, hdn, rfl, hM⟩
      have hw : (a, b, t) ∈ N.ls := by rw [hdn]; simp
      rw [show lnD (a, b, t) = .tup [.int a, .int b, .int t] from rfl]
      walk_at "vs"
      refine ⟨by decide, by decide, by decide, ?_⟩
      refine for_map pD [(a, b), (b, a)] (fun r2 δ => ∃ (d2 : List (Int × Int)) (M : List Int) (x11 x12 : AV), [(a, b), (b, a)] = d2 ++ r2 ∧ δ = [.im ND, .im (.int f), .im (.int l), .im (optI nd), .im (cutD2 ln), .im (.lst (F.map .int)), .im (.int (0 + (i : Int))), .ow false (.fl (M.map .int)), .im (.int a), .im (.int b), .im (.int t), x11, x12] ∧ OpenM N c f F (dn.flatMap bothW ++ d2) M) ⟨[], M, _, _, rfl, rfl, by rw [List.append_nil]; exact hM⟩ ?_ ?_
      · rintro ⟨p, q⟩ r2 δ _ ⟨d2, M, x11, x12, hd2, rfl, hM⟩
        have hpq : (p, q) ∈ [(a, b), (b, a)] := by rw [hd2]; simp
        rw [show pD (p, q) = .tup [.int p, .int q] from rfl]
        rw [hND]
        walk_at "vs"
        rw [← hND]
        have hj : joinN N p q ≠ none := by
          refine joinL_some.mpr ⟨_, hw, ?_⟩
          simp only [List.mem_cons, List.not_mem_nil, or_false, Prod.mk.injEq] at hpq
          rcases hpq with ⟨rfl, rfl⟩ | ⟨rfl, rfl⟩
          · exact .inl ⟨rfl, rfl⟩
          · exact .inr ⟨rfl, rfl⟩
        have hmm : mnI p q = mnI a b ∧ mxI p q = mxI a b := by
          simp only [List.mem_cons, List.not_mem_nil, or_false, Prod.mk.injEq] at hpq
          rcases hpq with ⟨rfl, rfl⟩ | ⟨rfl, rfl⟩
          · exact ⟨rfl, rfl⟩
          · exact ⟨mnI_comm _ _, mxI_comm _ _⟩
        obtain ⟨rp, rq⟩ := join_in hN hj
        have hMl := range_le hM.nd fun y hy => by
          obtain ⟨x, _, s⟩ := hM.fr y hy
          exact (join_in hN s.lk.1).2
        have hcut : c.cut ≠ some (mnI p q, mxI p q) ↔ ln ≠ some (a, b) := by
          rw [hc, hmm.1, hmm.2]
          refine not_congr ⟨fun z => ?_, fun z => by rw [z]; rfl⟩
          cases ln with
          | none => exact nomatch z
          | some u =>
            obtain ⟨w', hw', hu⟩ := hln
            injection z with z
            rw [hu] at z
            have := line_same hN hw' hw z
            rw [hu, this]
        have hwo : q ∉ c.wo ↔ q ∉ nd.toList := by rw [hc]; exact Iff.rfl
        rw [ixD_kD rp.1 rp.2]
        rw [show N.ks.getD p.toNat false = hostN N p from rfl]
        simp only [inD_ints, okD_il, okD_node, okD_cut, okD_p2, okD_k, okD_ks, eqD_ks, eqD_node, eqD_line, true_and]
        have skip : (p ∈ F → StepC N c f p q → q ∈ F ∨ q ∈ M) → ∃ (d2' : List (Int × Int)) (M' : List Int) (x11 x12 : AV), [(a, b), (b, a)] = d2' ++ r2 ∧ ([.im ND, .im (.int f), .im (.int l), .im (optI nd), .im (cutD2 ln), .im (.lst (F.map .int)), .im (.int (0 + (i : Int))), .ow false (.fl (M.map .int)), .im (.int a), .im (.int b), .im (.int t), .im (.int p), .im (.int q)] : List AV) = [.im ND, .im (.int f), .im (.int l), .im (optI nd), .im (cutD2 ln), .im (.lst (F.map .int)), .im (.int (0 + (i : Int))), .ow false (.fl (M'.map .int)), .im (.int a), .im (.int b), .im (.int t), x11, x12] ∧ OpenM N c f F (dn.flatMap bothW ++ d2') M' := fun hs => by
          refine ⟨d2 ++ [(p, q)], M, _, _, by rw [hd2]; simp, rfl, hM.nd, hM.dj, hM.fr, fun e he => ?_⟩
          rw [← List.append_assoc] at he
          rcases List.mem_append.mp he with z | z
          · exact hM.al e z
          · rw [List.mem_singleton.mp z]; exact hs
        have add : p ∈ F → StepC N c f p q → q ∉ F → q ∉ M → M.length < 1000000 ∧ ∃ (d2' : List (Int × Int)) (M' : List Int) (x11 x12 : AV), [(a, b), (b, a)] = d2' ++ r2 ∧ ([.im ND, .im (.int f), .im (.int l), .im (optI nd), .im (cutD2 ln), .im (.lst (F.map .int)), .im (.int (0 + (i : Int))), .ow false (.fl ((M ++ [q]).map .int)), .im (.int a), .im (.int b), .im (.int t), .im (.int p), .im (.int q)] : List AV) = [.im ND, .im (.int f), .im (.int l), .im (optI nd), .im (cutD2 ln), .im (.lst (F.map .int)), .im (.int (0 + (i : Int))), .ow false (.fl (M'.map .int)), .im (.int a), .im (.int b), .im (.int t), x11, x12] ∧ OpenM N c f F (dn.flatMap bothW ++ d2') M' := fun hp hs hqF hqM => by
          refine ⟨by omega, d2 ++ [(p, q)], M ++ [q], _, _, by rw [hd2]; simp, rfl, ?_, fun y hy => ?_, fun y hy => ?_, fun e he hF s => ?_⟩
          · rw [List.nodup_append]
            exact ⟨hM.nd, List.nodup_cons.mpr ⟨List.not_mem_nil, List.nodup_nil⟩, fun x hx y hy e => hqM (by rw [List.mem_singleton.mp hy] at e; exact e ▸ hx)⟩
          · rcases List.mem_append.mp hy with z | z
            · exact hM.dj y z
            · rw [List.mem_singleton.mp z]; exact hqF
          · rcases List.mem_append.mp hy with z | z
            · exact hM.fr y z
            · rw [List.mem_singleton.mp z]; exact ⟨p, hp, hs⟩
          · rw [← List.append_assoc] at he
            rcases List.mem_append.mp he with z | z
            · exact (hM.al e z hF s).imp id fun w => List.mem_append_left _ w
            · rw [List.mem_singleton.mp z]; exact .inr (List.mem_append_right _ (List.mem_singleton.mpr rfl))
        by_cases k1 : p ∈ F
        · refine ite_yes (decide_eq_true k1) ?_
          by_cases k2 : q ∈ F
          · exact ite_no (by rw [decide_eq_true k2]; decide) (skip fun _ _ => .inl k2)
          · refine ite_yes (by rw [decide_eq_false k2]; rfl) ?_
            by_cases k3 : q ∈ M
            · exact ite_no (by rw [decide_eq_true k3]; decide) (skip fun _ _ => .inr k3)
            · refine ite_yes (by rw [decide_eq_false k3]; rfl) ?_
              by_cases k4 : q ∈ nd.toList
              · exact ite_no (by rw [decide_eq_true k4]; decide) (skip fun _ s => absurd k4 (hwo.mp s.nw))
              · refine ite_yes (by rw [decide_eq_false k4]; rfl) ⟨by decide, ?_⟩
                by_cases k5 : ln = some (a, b)
                · exact ite_no (by rw [decide_eq_true k5]; decide) (skip fun _ s => absurd k5 (hcut.mp s.lk.2))
                · refine ite_yes (by rw [decide_eq_false k5]; rfl) ?_
                  by_cases k6 : p = f
                  · exact ite_yes k6 (add k1 ⟨⟨hj, hcut.mpr k5⟩, .inl k6, hwo.mpr k4⟩ k2 k3)
                  · refine ite_no k6 ?_
                    by_cases k7 : hostN N p = false
                    · exact ite_yes (by rw [k7]; rfl) (add k1 ⟨⟨hj, hcut.mpr k5⟩, .inr k7, hwo.mpr k4⟩ k2 k3)
                    · exact ite_no (by simpa using k7) (skip fun _ s => s.lv.elim (fun z => absurd z k6) fun z => absurd z k7)
        · exact ite_no (by rw [decide_eq_false k1]; decide) (skip fun z => absurd z k1)
      · rintro δ ⟨d2, M, x11, x12, hd2, rfl, hM⟩
        rw [List.append_nil] at hd2
        subst hd2
        refine ⟨dn ++ [(a, b, t)], M, _, _, _, _, _, by rw [hdn]; simp, rfl, ?_⟩
        rw [List.flatMap_append]
        exact hM
    · rintro δ ⟨dn, M, x8, x9, x10, x11, x12, hdn, rfl, hM⟩
      rw [List.append_nil] at hdn
      subst hdn
      walk_at "vs"
      have hT2 := hT.next hN hM
      have := range_le hT2.nd hT2.rg
      rw [List.length_append] at this
      rw [← List.map_append]
      exact ⟨by omega, F ++ M, _, _, _, _, _, _, _, rfl, hT2⟩
  · rintro δ ⟨F, x6, x7, x8, x9, x10, x11, x12, rfl, hT⟩
    rw [show (N.ks.length : Int).toNat = N.ks.length by omega] at hT
    walk_at "vs"
    refine ⟨okD_il _, ?_⟩
    rw [inD_ints]
    exact h _ (by rw [decide_eq_true_eq, hT.fin]; exact fwd_iff hfw hlw)
def c__law_bottleneck : Ct := fun ws Q => ∃ (N : NetV) (f l : Int), ws = [.cl (.ins 0 [.lst (N.ks.map kD), .lst (N.ls.map lnD), .int N.pr, .int N.er]), .cl (.int f), .cl (.int l)] ∧ NetW N ∧ Ends2 N f l ∧ ∀ d, BotD N f l d → Q (.cl d)
theorem l__law_bottleneck : ∀ ws P, c__law_bottleneck ws P → ws.length = 3 := by rintro ws P ⟨N, f, l, rfl, _⟩; rfl
/-- _law_bottleneck: slots 0=_law_net_here 1=_law_first 2=_law_last 3=_law_node 4=_law_pair 5=_law_a 6=_law_b 7=_law_ticks -/
def a__law_bottleneck : AS :=
  aSeq (aFor (iR1 (aCons (aCB fLen1 (aCons (aFld 0 0 (aV 0)) (aNil))) (aNil))) (agN 3) (aIf (aAnd (aB (aBin (dEq) (aBin dIx (aFld 0 0 (aV 0)) (aV 3)) (aC (.str "switch")))) (aNot (aB (aCall c__law_open (aCons (aV 0) (aCons (aV 1) (aCons (aV 2) (aCons (aV 3) (aCons (aC .non) (aNil)))))))))) (aRet (aTup (aCons (aC (.str "switch")) (aCons (aV 3) (aNil))))) (aNext))) (aSeq (aFor (iLst (aCB fSortT (aCons (aLc (iLstG (aFld 0 1 (aV 0))) (agT 3 (agCons (agN 5) (agCons (agN 6) (agCons (agN 7) (agNil))))) (aYes) (aTup (aCons (aCB fMin2 (aCons (aV 5) (aCons (aV 6) (aNil)))) (aCons (aCB fMax2 (aCons (aV 5) (aCons (aV 6) (aNil)))) (aNil)))) [5, 6, 7]) (aNil)))) (agN 4) (aFor (iLst (aFld 0 1 (aV 0))) (agT 3 (agCons (agN 5) (agCons (agN 6) (agCons (agN 7) (agNil))))) (aIf (aAnd (aB (aBin (dEq) (aTup (aCons (aCB fMin2 (aCons (aV 5) (aCons (aV 6) (aNil)))) (aCons (aCB fMax2 (aCons (aV 5) (aCons (aV 6) (aNil)))) (aNil)))) (aV 4))) (aNot (aB (aCall c__law_open (aCons (aV 0) (aCons (aV 1) (aCons (aV 2) (aCons (aC .non) (aCons (aTup (aCons (aV 5) (aCons (aV 6) (aNil)))) (aNil)))))))))) (aRet (aTup (aCons (aC (.str "line")) (aCons (aBin dIx (aV 4) (aC (.int 0))) (aCons (aBin dIx (aV 4) (aC (.int 1))) (aNil)))))) (aNext)))) (aRet (aC .non)))
theorem w__law_bottleneck : ∀ ws P, c__law_bottleneck ws P → a__law_bottleneck { nx := fun _ => P (.cl .non), rt := fun w _ => P w } (startA 8 ws) := by
  rintro ws P ⟨N, f, l, rfl, hN, E, h2⟩
  have n60 := hN.n60
  have l60 := hN.l60
  show a__law_bottleneck _ [.im (.ins 0 [.lst (N.ks.map kD), .lst (N.ls.map lnD), .int N.pr, .int N.er]), .im (.int f), .im (.int l), .non, .non, .non, .non, .non]
  unfold a__law_bottleneck
  walk_at "vs"
  refine ⟨by omega, ?_⟩
  refine for_up (fun i δ => (∃ x, δ = [.im (.ins 0 [.lst (N.ks.map kD), .lst (N.ls.map lnD), .int N.pr, .int N.er]), .im (.int f), .im (.int l), x, .non, .non, .non, .non]) ∧ NoS N f l i) ⟨⟨_, rfl⟩, fun u q1 q2 => by omega⟩ ?_ ?_
  · rintro i δ hi ⟨⟨x, rfl⟩, hS⟩
    walk_at "vs"
    rw [ixD_kD (by omega) (by omega)]
    walk_at "vs"
    have e0 : (0 + (i : Int)) = (i : Int) := by omega
    rw [e0]
    simp only [okD_k, okD_ks, eqD_ks, true_and]
    have eh : N.ks.getD ((i : Int)).toNat false = hostN N (i : Int) := rfl
    rw [eh]
    have nxt : (hostN N (i : Int) = false → ¬ cutSw N f l (i : Int)) → NoS N f l ((i + 1 : Nat) : Int) := fun q u q1 q2 q3 => by
      by_cases z : u = (i : Int)
      · rw [z] at q3 ⊢; exact q q3
      · exact hS u q1 (by omega) q3
    by_cases hb : hostN N (i : Int) = false
    · refine ite_yes (by rw [hb]; rfl) ⟨N, f, l, some (i : Int), none, rfl, hN, E, fun v hv => by injection hv with hv; rw [← hv]; exact hb, True.intro, fun b hb2 => ?_⟩
      have hb2 : b = true ↔ ¬ cutSw N f l (i : Int) := hb2
      walk_at "vs"
      cases b with
      | true => exact ite_no (by decide) ⟨⟨_, rfl⟩, nxt fun _ => hb2.mp rfl⟩
      | false =>
        have hno : cutSw N f l (i : Int) := Classical.byContradiction fun z => nomatch hb2.mpr z
        exact ite_yes rfl ⟨by decide, h2 _ (.sw (by omega) hb hno hS)⟩
    · exact ite_no (by simpa using hb) ⟨⟨_, rfl⟩, nxt fun z => absurd z hb⟩
  rintro δ ⟨⟨x, rfl⟩, hS⟩
  have hS : NoS N f l N.ks.length := by have e : (((N.ks.length : Int)).toNat : Int) = N.ks.length := by omega
                                        rw [e] at hS; exact hS
  walk_at "vs"
  refine lc_all lnD (fun w => pD (mnI w.1 w.2.1, mxI w.1 w.2.1)) N.ls (by omega) (fun w hw K hK => ?_) ?_
  · obtain ⟨a, b, t⟩ := w
    rw [show lnD (a, b, t) = .tup [.int a, .int b, .int t] from rfl]
    walk_at "vs"
    exact ⟨by decide, hK⟩
  walk_at "vs"
  refine ⟨2, (pairsN N).map prI, by decide, by unfold pairsN; rw [List.map_map, List.map_map]; rfl, fun k hk => ?_, fun ms hp hms => ?_⟩
  · obtain ⟨x, _, rfl⟩ := List.mem_map.mp hk; rfl
  obtain ⟨m, hm, rfl⟩ := perm_pr hp
  have hst : SrtP N m := ⟨hm, List.pairwise_map.mp hms⟩
  rw [show (m.map prI).map tupI = m.map pD by rw [List.map_map]; rfl]
  refine for_map pD m (fun r δ => ∃ (dn : List (Int × Int)) (x4 x5 x6 x7 : AV), m = dn ++ r ∧ δ = [.im (.ins 0 [.lst (N.ks.map kD), .lst (N.ls.map lnD), .int N.pr, .int N.er]), .im (.int f), .im (.int l), x, x4, x5, x6, x7] ∧ ∀ q ∈ dn, ¬ cutLn N f l q) ⟨[], _, _, _, _, rfl, rfl, fun q hq => nomatch hq⟩ ?_ ?_
  · rintro ⟨a, b⟩ r δ _ ⟨dn, x4, x5, x6, x7, hdn, rfl, hd⟩
    have hmem : (a, b) ∈ pairsN N := hm.mem_iff.mp (by rw [hdn]; simp)
    rw [show pD (a, b) = .tup [.int a, .int b] from rfl]
    walk_at "vs"
    refine for_map lnD N.ls (fun r δ => ∃ (d2 : List Ln) (x5 x6 x7 : AV), N.ls = d2 ++ r ∧ δ = [.im (.ins 0 [.lst (N.ks.map kD), .lst (N.ls.map lnD), .int N.pr, .int N.er]), .im (.int f), .im (.int l), x, .im (.tup [.int a, .int b]), x5, x6, x7] ∧ ∀ w ∈ d2, (mnI w.1 w.2.1, mxI w.1 w.2.1) = (a, b) → ¬ cutLn N f l (a, b)) ⟨[], _, _, _, rfl, rfl, fun w hw => nomatch hw⟩ ?_ ?_
    · rintro ⟨p, q, t⟩ r2 δ _ ⟨d2, x5, x6, x7, hd2, rfl, hw2⟩
      have hw : (p, q, t) ∈ N.ls := by rw [hd2]; simp
      rw [show lnD (p, q, t) = .tup [.int p, .int q, .int t] from rfl]
      walk_at "vs"
      simp only [okD_p2, eqD_p2, true_and]
      refine ⟨by decide, ?_⟩
      have skip : ((mnI p q, mxI p q) = (a, b) → ¬ cutLn N f l (a, b)) → ∃ (d2' : List Ln) (x5 x6 x7 : AV), N.ls = d2' ++ r2 ∧ ([.im (.ins 0 [.lst (N.ks.map kD), .lst (N.ls.map lnD), .int N.pr, .int N.er]), .im (.int f), .im (.int l), x, .im (.tup [.int a, .int b]), .im (.int p), .im (.int q), .im (.int t)] : List AV) = [.im (.ins 0 [.lst (N.ks.map kD), .lst (N.ls.map lnD), .int N.pr, .int N.er]), .im (.int f), .im (.int l), x, .im (.tup [.int a, .int b]), x5, x6, x7] ∧ ∀ w ∈ d2', (mnI w.1 w.2.1, mxI w.1 w.2.1) = (a, b) → ¬ cutLn N f l (a, b) := fun hs => by
        refine ⟨d2 ++ [(p, q, t)], _, _, _, by rw [hd2]; simp, rfl, fun w hw => ?_⟩
        rcases List.mem_append.mp hw with z | z
        · exact hw2 w z
        · rw [List.mem_singleton.mp z]; exact hs
      by_cases k1 : mnI p q = a ∧ mxI p q = b
      · refine ite_yes (decide_eq_true k1) ⟨by decide, N, f, l, none, some (p, q), rfl, hN, E, fun v hv => (nomatch hv), ⟨_, hw, rfl⟩, fun c hc => ?_⟩
        have hc : c = true ↔ ¬ cutLn N f l (a, b) := by rw [← k1.1, ← k1.2]; exact hc
        walk_at "vs"
        cases c with
        | true => exact ite_no (by decide) (skip fun _ => hc.mp rfl)
        | false =>
          have hno : cutLn N f l (a, b) := Classical.byContradiction fun z => nomatch hc.mpr z
          exact ite_yes rfl ⟨by decide, h2 _ (.ln hS hmem hno (hst.first hdn hd))⟩
      · exact ite_no (fun z => k1 (of_decide_eq_true z)) (skip fun z => absurd (Prod.mk.inj z) k1)
    · rintro δ ⟨d2, x5, x6, x7, hd2, rfl, hw2⟩
      rw [List.append_nil] at hd2
      subst hd2
      refine ⟨dn ++ [(a, b)], _, _, _, _, by rw [hdn]; simp, rfl, fun q hq => ?_⟩
      rcases List.mem_append.mp hq with z | z
      · exact hd q z
      · rw [List.mem_singleton.mp z]
        obtain ⟨w, hw, e⟩ := List.mem_map.mp hmem
        exact hw2 w hw e
  · rintro δ ⟨dn, x4, x5, x6, x7, hdn, rfl, hd⟩
    rw [List.append_nil] at hdn
    subst hdn
    walk_at "vs"
    exact h2 _ (.no hS fun q hq => hd q (hm.mem_iff.mpr hq))
def c__law_right : Ct := fun ws Q => ∃ (N : NetV) (f l : Int) (r : List Int), ws = [.cl (.ins 0 [.lst (N.ks.map kD), .lst (N.ls.map lnD), .int N.pr, .int N.er]), .cl (.lst ((f :: r).map .int)), .cl (.int f), .cl (.int l)] ∧ NetW N ∧ Ends2 N f l ∧ WayL N c0 l (f :: r) ∧ (f :: r).Nodup ∧ Q (.cl (.bl true))
theorem l__law_right : ∀ ws P, c__law_right ws P → ws.length = 4 := by rintro ws P ⟨N, f, l, r, rfl, _⟩; rfl
/-- _law_right: slots 0=_law_net_here 1=_law_path 2=_law_first 3=_law_last 4=_law_k -/
def a__law_right : AS :=
  aSeq (aIf (aOr (aNot (aB (aIsi "list" (aV 1)))) (aOr (aB (aBin (dLt) (aCB fLen1 (aCons (aV 1) (aNil))) (aC (.int 2)))) (aOr (aB (aBin (dNe) (aBin dIx (aV 1) (aC (.int 0))) (aV 2))) (aB (aBin (dNe) (aBin dIx (aV 1) (aBin dSub (aCB fLen1 (aCons (aV 1) (aNil))) (aC (.int 1)))) (aV 3)))))) (aRet (aC (.bl false))) (aNext)) (aSeq (aFor (iR2 (aCons (aC (.int 1)) (aCons (aCB fLen1 (aCons (aV 1) (aNil))) (aNil)))) (agN 4) (aSeq (aIf (aOr (aB (aBin (dIn false) (aBin dIx (aV 1) (aV 4)) (aSl (aV 1) (aoN) (aoS (aV 4))))) (aB (aBin (dIsN) (aCall c__law_joined (aCons (aV 0) (aCons (aBin dIx (aV 1) (aBin dSub (aV 4) (aC (.int 1)))) (aCons (aBin dIx (aV 1) (aV 4)) (aNil))))) (aC .non)))) (aRet (aC (.bl false))) (aNext)) (aIf (aAnd (aB (aBin (dLt) (aV 4) (aBin dSub (aCB fLen1 (aCons (aV 1) (aNil))) (aC (.int 1))))) (aB (aBin (dNe) (aBin dIx (aFld 0 0 (aV 0)) (aBin dIx (aV 1) (aV 4))) (aC (.str "switch"))))) (aRet (aC (.bl false))) (aNext)))) (aRet (aC (.bl true))))
theorem w__law_right : ∀ ws P, c__law_right ws P → a__law_right { nx := fun _ => P (.cl .non), rt := fun w _ => P w } (startA 5 ws) := by
  rintro ws P ⟨N, f, l, r, rfl, hN, E, hw, hn, h⟩
  obtain ⟨p, hp⟩ : ∃ p, p = f :: r := ⟨_, rfl⟩
  have hin := wayL_in hN hw E.hf
  have h0 : p.getD 0 0 = f := by rw [hp]; rfl
  have h1 : 1 ≤ p.length := by rw [hp]; simp
  rw [← hp] at hw hn hin ⊢
  obtain ⟨_, w2, w3⟩ := wayL_iff.mp hw
  have hpl := range_le hn hin
  have n60 := hN.n60
  have hl2 : 2 ≤ p.length := by
    apply Classical.byContradiction
    intro z
    rw [show p.length - 1 = 0 by omega, h0] at w2
    exact E.ne w2
  have ix : ∀ k : Nat, k < p.length → ixD (p.map D.int) (k : Int) = some (.int (p.getD k 0)) := fun k hk => ixD_map D.int (by omega) (by rw [show ((k : Int)).toNat = k by omega]; exact getD_at hk)
  show a__law_right _ [.im (.ins 0 [.lst (N.ks.map kD), .lst (N.ls.map lnD), .int N.pr, .int N.er]), .im (.lst (p.map .int)), .im (.int f), .im (.int l), .non]
  unfold a__law_right
  walk_at "vs"
  rw [show ixD (p.map D.int) 0 = some (.int f) by rw [← h0]; exact ix 0 (by omega), show ixD (p.map D.int) ((p.length : Int) - 1) = some (.int l) by rw [show ((p.length : Int) - 1) = ((p.length - 1 : Nat) : Int) by omega, ix _ (by omega), w2]]
  walk_at "vs"
  refine ite_no (by omega) (ite_no (by simp) (ite_no (by simp) ⟨by omega, ?_⟩))
  refine for_up (fun i δ => ∃ x, δ = [.im (.ins 0 [.lst (N.ks.map kD), .lst (N.ls.map lnD), .int N.pr, .int N.er]), .im (.lst (p.map .int)), .im (.int f), .im (.int l), x]) ⟨_, rfl⟩ ?_ ?_
  · rintro i δ hi ⟨x, rfl⟩
    have hi : i + 1 < p.length := by omega
    have e1 : (1 + (i : Int)) = ((i + 1 : Nat) : Int) := by omega
    have e0 : ((i + 1 : Nat) : Int) - 1 = (i : Int) := by omega
    rw [e1]
    walk_at "vs"
    rw [cut_take, ix _ hi, e0, ix i (by omega)]
    walk_at "vs"
    simp only [okD_il, inD_ints, true_and]
    have hnot : p.getD (i + 1) 0 ∉ p.take (i + 1) := fun z => by
      obtain ⟨j, hj⟩ := List.mem_iff_getElem?.mp z
      rw [List.getElem?_take] at hj
      split at hj
      · rename_i hji
        have hjl : j < p.length := by omega
        have := nodup_getD hn hjl hi (by rw [List.getD_eq_getElem?_getD, hj]; rfl)
        omega
      · cases hj
    obtain ⟨q1, q2, q3⟩ := w3 i hi
    refine ite_no (by rw [decide_eq_false hnot]; decide) ⟨N, p.getD i 0, p.getD (i + 1) 0, rfl, ?_⟩
    have hsw : i + 1 < p.length - 1 → hostN N (p.getD (i + 1) 0) = false := fun hlt => q3.elim (fun z => by
      have := nodup_getD hn hi (show p.length - 1 < p.length by omega) (z.trans w2.symm)
      omega) id
    have rng := hin _ (List.mem_of_getElem? (getD_at hi))
    cases hd : joinN N (p.getD i 0) (p.getD (i + 1) 0) with
    | none => exact absurd hd q2.1
    | some d =>
      simp only [optI]
      by_cases k1 : i + 1 < p.length - 1
      · refine ite_yes (by omega) ?_
        rw [ixD_kD rng.1 rng.2, show N.ks.getD (p.getD (i + 1) 0).toNat false = hostN N (p.getD (i + 1) 0) from rfl, hsw k1]
        exact ⟨okD_k _, okD_ks, ite_no (by decide +kernel) ⟨_, rfl⟩⟩
      · exact ite_no (by omega) ⟨_, rfl⟩
  · rintro δ ⟨x, rfl⟩
    walk_at "vs"
    exact h
theorem okD_bd {N : NetV} {f l : Int} {d : D} (h : BotD N f l d) : okD d = true := by
  cases h with
  | @sw v => exact dep_ok (n := 1) (dep_tup fun x hx => by
      simp only [List.mem_cons, List.not_mem_nil, or_false] at hx
      rcases hx with rfl | rfl
      · exact dep_str 0 _ (by decide +kernel)
      · exact dep_int 0 _) (by decide)
  | @ln a b => exact dep_ok (n := 1) (dep_tup fun x hx => by
      simp only [List.mem_cons, List.not_mem_nil, or_false] at hx
      rcases hx with rfl | rfl | rfl
      · exact dep_str 0 _ (by decide +kernel)
      · exact dep_int 0 _
      · exact dep_int 0 _) (by decide)
  | no => rfl
def c__law_pair_holds : Ct := fun ws Q => ∃ (N : NetV) (f l : Int), ws = [.cl (.ins 0 [.lst (N.ks.map kD), .lst (N.ls.map lnD), .int N.pr, .int N.er]), .cl (.int f), .cl (.int l)] ∧ NetW N ∧ Ends2 N f l ∧ Q (.cl (.bl true))
theorem l__law_pair_holds : ∀ ws P, c__law_pair_holds ws P → ws.length = 3 := by rintro ws P ⟨N, f, l, rfl, _⟩; rfl
/-- _law_pair_holds: slots 0=_law_net_here 1=_law_first 2=_law_last 3=_law_told 4=_law_narrow 5=_law_due 6=_law_inner 7=_law_node -/
def a__law_pair_holds : AS :=
  aSeq (aSetC 3 (aCall c_separate_paths (aCons (aV 0) (aCons (aV 1) (aCons (aV 2) (aNil)))))) (aSeq (aSetC 4 (aCall c_bottleneck (aCons (aV 0) (aCons (aV 1) (aCons (aV 2) (aNil)))))) (aSeq (aIf (aNot (aB (aCall c__law_open (aCons (aV 0) (aCons (aV 1) (aCons (aV 2) (aCons (aC .non) (aCons (aC .non) (aNil))))))))) (aRet (aAndV (aBin (dIsN) (aV 3) (aC .non)) (aBin (dIsN) (aV 4) (aC .non)))) (aNext)) (aSeq (aSetC 5 (aCall c__law_bottleneck (aCons (aV 0) (aCons (aV 1) (aCons (aV 2) (aNil)))))) (aSeq (aIf (aOr (aB (aBin (dNe) (aV 4) (aV 5))) (aB (aBin (dNe) (aBin (dIsN) (aV 3) (aC .non)) (aBin (dNotN) (aV 5) (aC .non))))) (aRet (aC (.bl false))) (aNext)) (aSeq (aIf (aB (aBin (dIsN) (aV 3) (aC .non))) (aRet (aC (.bl true))) (aNext)) (aSeq (aIf (aOr (aNot (aB (aIsi "tuple" (aV 3)))) (aB (aBin (dNe) (aCB fLen1 (aCons (aV 3) (aNil))) (aC (.int 2))))) (aRet (aC (.bl false))) (aNext)) (aSeq (aIf (aOr (aNot (aB (aCall c__law_right (aCons (aV 0) (aCons (aBin dIx (aV 3) (aC (.int 0))) (aCons (aV 1) (aCons (aV 2) (aNil)))))))) (aNot (aB (aCall c__law_right (aCons (aV 0) (aCons (aBin dIx (aV 3) (aC (.int 1))) (aCons (aV 1) (aCons (aV 2) (aNil))))))))) (aRet (aC (.bl false))) (aNext)) (aSeq (aSetC 6 (aSl (aBin dIx (aV 3) (aC (.int 0))) (aoS (aC (.int 1))) (aoS (aBin dSub (aCB fLen1 (aCons (aBin dIx (aV 3) (aC (.int 0))) (aNil))) (aC (.int 1)))))) (aSeq (aFor (iLst (aSl (aBin dIx (aV 3) (aC (.int 1))) (aoS (aC (.int 1))) (aoS (aBin dSub (aCB fLen1 (aCons (aBin dIx (aV 3) (aC (.int 1))) (aNil))) (aC (.int 1)))))) (agN 7) (aIf (aB (aBin (dIn false) (aV 7) (aV 6))) (aRet (aC (.bl false))) (aNext))) (aRet (aBin (dGt) (aBin dAdd (aCB fLen1 (aCons (aBin dIx (aV 3) (aC (.int 0))) (aNil))) (aCB fLen1 (aCons (aBin dIx (aV 3) (aC (.int 1))) (aNil)))) (aC (.int 4)))))))))))))
theorem w__law_pair_holds : ∀ ws P, c__law_pair_holds ws P → a__law_pair_holds { nx := fun _ => P (.cl .non), rt := fun w _ => P w } (startA 8 ws) := by
  rintro ws P ⟨N, f, l, rfl, hN, E, h⟩
  obtain ⟨ND, hND⟩ : ∃ ND, ND = D.ins 0 [.lst (N.ks.map kD), .lst (N.ls.map lnD), .int N.pr, .int N.er] := ⟨_, rfl⟩
  rw [← hND]
  have ecut : cutOf none none = c0 := rfl
  show a__law_pair_holds _ [.im ND, .im (.int f), .im (.int l), .non, .non, .non, .non, .non]
  unfold a__law_pair_holds
  walk_at "vs"
  refine ⟨N, f, l, by rw [hND], hN, E, fun hb => ?_, fun r1 r2 hs => ?_⟩
  · walk_at "vs"
    refine ⟨N, f, l, by rw [hND], hN, E, fun hno => ?_, fun hyes d hd => ?_⟩
    · walk_at "vs"
      refine ⟨N, f, l, none, none, by rw [hND]; rfl, hN, E, fun v hv => (nomatch hv), True.intro, fun b hb2 => ?_⟩
      rw [ecut] at hb2
      cases b with
      | true => exact absurd hno (hb2.mp rfl)
      | false => exact h
    · walk_at "vs"
      have hbt : Bott N f l := hb.elim (fun z => absurd z hyes) id
      have dn : d ≠ .non := fun z => (hd.bott.mp z) hbt
      refine ⟨N, f, l, none, none, by rw [hND]; rfl, hN, E, fun v hv => (nomatch hv), True.intro, fun b hb2 => ?_⟩
      rw [ecut] at hb2
      have : b = true := hb2.mpr hyes
      subst this
      walk_at "vs"
      refine ⟨N, f, l, by rw [hND], hN, E, fun d' hd' => ?_⟩
      rw [← hd.uniq hd']
      have okd := okD_bd hd
      cases hd with
      | no => exact absurd rfl dn
      | sw => exact ⟨okd, okd, ite_no (by rw [eqD_self okd]; decide) (ite_no (by decide) h)⟩
      | ln => exact ⟨okd, okd, ite_no (by rw [eqD_self okd]; decide) (ite_no (by decide) h)⟩
  · have hyes : ¬ NoWay N c0 f l := fun z => z r1.length ⟨r1, rfl, hs.w1⟩
    have hnb := hs.noBott E
    walk_at "vs"
    refine ⟨N, f, l, by rw [hND], hN, E, fun hno => absurd hno hyes, fun _ d hd => ?_⟩
    have : d = .non := hd.bott.mpr hnb
    subst this
    walk_at "vs"
    refine ⟨N, f, l, none, none, by rw [hND]; rfl, hN, E, fun v hv => (nomatch hv), True.intro, fun b hb2 => ?_⟩
    rw [ecut] at hb2
    have : b = true := hb2.mpr hyes
    subst this
    walk_at "vs"
    refine ⟨N, f, l, by rw [hND], hN, E, fun d' hd' => ?_⟩
    rw [← hd.uniq hd']
    walk_at "vs"
    refine ite_no (by decide) (ite_no (by decide) ?_)
    refine ⟨N, f, l, r1, by rw [hND], hN, E, hs.w1, hs.n1, ?_⟩
    walk_at "vs"
    refine ⟨N, f, l, r2, by rw [hND], hN, E, hs.w2, hs.n2, ?_⟩
    walk_at "vs"
    have hr : ∀ {r : List Int}, WayL N c0 l (f :: r) → 1 ≤ r.length ∧ r.getD (r.length - 1) 0 = l := fun {r} hw => by
      obtain ⟨_, w2, _⟩ := wayL_iff.mp hw
      cases r with
      | nil => exact absurd w2 E.ne
      | cons y r => exact ⟨by simp, w2⟩
    obtain ⟨q1, q2⟩ := hr hs.w1
    obtain ⟨q3, q4⟩ := hr hs.w2
    have ec : ∀ (r : List Int), 1 ≤ r.length → cutD (List.map D.int (f :: r)) (some 1) (some (((r.length + 1 : Nat) : Int) - 1)) = (r.take (r.length - 1)).map D.int := fun r hr => by
      rw [cutD_cutL]
      congr 1
      unfold cutL
      have e1 : HT.sIx (f :: r).length 0 (some 1) = 1 := by
        unfold HT.sIx
        simp
      have e2 : HT.sIx (f :: r).length (f :: r).length (some (((r.length + 1 : Nat) : Int) - 1)) = r.length := by
        unfold HT.sIx
        simp
        omega
      rw [e1, e2]
      rfl
    have nl : ∀ {r : List Int}, (f :: r).Nodup → 1 ≤ r.length → r.getD (r.length - 1) 0 = l → l ∉ r.take (r.length - 1) := fun {r} hn hr hl z => by
      obtain ⟨j, hj⟩ := List.mem_iff_getElem?.mp z
      rw [List.getElem?_take] at hj
      split at hj
      · rename_i hji
        have := nodup_getD (List.nodup_cons.mp hn).2 (show j < r.length by omega) (show r.length - 1 < r.length by omega) (by rw [List.getD_eq_getElem?_getD, hj]; exact hl.symm)
        omega
      · cases hj
    rw [ec r1 q1, ec r2 q3]
    refine for_map D.int (r2.take (r2.length - 1)) (fun rest δ => (∃ x, δ = [.im ND, .im (.int f), .im (.int l), .im (.tup [.lst (List.map D.int (f :: r1)), .lst (List.map D.int (f :: r2))]), .im .non, .im .non, .im (.lst ((r1.take (r1.length - 1)).map .int)), x])) ⟨_, rfl⟩ ?_ ?_
    · rintro v rest δ ⟨l0, hl0⟩ ⟨x, rfl⟩
      have hv : v ∈ r2.take (r2.length - 1) := by rw [hl0]; simp
      walk_at "vs"
      refine ⟨okD_il _, ?_⟩
      rw [inD_ints]
      refine ite_no (fun z => ?_) ⟨_, rfl⟩
      have z := of_decide_eq_true z
      have := hs.dj v (List.mem_of_mem_take z) (List.mem_of_mem_take hv)
      subst this
      exact nl hs.n1 q1 q2 z
    · rintro δ ⟨x, rfl⟩
      walk_at "vs"
      have hne : ¬ (r1.length = 1 ∧ r2.length = 1) := fun ⟨z1, z2⟩ => by
        have one : ∀ {r : List Int}, r.length = 1 → r.getD (r.length - 1) 0 = l → r = [l] := fun {r} hr hl => by
          obtain ⟨a, rfl⟩ := len_1 hr
          rw [show a = l from hl]
        exact hs.no ⟨one z1 q2, one z2 q4⟩
      rw [decide_eq_true (by omega)]
      exact h
theorem tri_le9 {n : Nat} (h : n ≤ 9) : tri n ≤ 36 := by
  have : n = 0 ∨ n = 1 ∨ n = 2 ∨ n = 3 ∨ n = 4 ∨ n = 5 ∨ n = 6 ∨ n = 7 ∨ n = 8 ∨ n = 9 := by omega
  rcases this with rfl | rfl | rfl | rfl | rfl | rfl | rfl | rfl | rfl | rfl <;> decide
def wideK (k : Nat) : List Bool := true :: (List.replicate k false ++ [true])
theorem wideK_len (k : Nat) : (wideK k).length = k + 2 := by unfold wideK; simp
theorem wideK_in {k i : Nat} (h1 : 1 ≤ i) (h2 : i ≤ k) : (wideK k).getD i false = false := by
  unfold wideK
  obtain ⟨j, rfl⟩ : ∃ j, i = j + 1 := ⟨i - 1, by omega⟩
  rw [List.getD_eq_getElem?_getD, List.getElem?_cons_succ, List.getElem?_append_left (by rw [List.length_replicate]; omega), List.getElem?_replicate]
  split <;> rfl
theorem wideK_last (k : Nat) : (wideK k).getD (k + 1) false = true := by
  unfold wideK
  rw [List.getD_eq_getElem?_getD, List.getElem?_cons_succ, List.getElem?_append_right (by rw [List.length_replicate]; omega), List.length_replicate, Nat.sub_self]
  rfl
def c__law_wide : Ct := fun ws Q => ∃ a b : Int, ws = [.cl (.int a), .cl (.int b)] ∧ ∀ N, NetW N → Ends2 N 0 ((N.ks.length : Int) - 1) → Q (.cl (.ins 0 [.lst (N.ks.map kD), .lst (N.ls.map lnD), .int N.pr, .int N.er]))
theorem l__law_wide : ∀ ws P, c__law_wide ws P → ws.length = 2 := by rintro ws P ⟨a, b, rfl, _⟩; rfl
/-- _law_wide: slots 0=_law_cell_here 1=_law_more 2=_law_numbers 3=_law_switches 4=_law_kinds 5=_law_pairs 6=_law_a 7=_law_b 8=_law_draws 9=_law_lines 10=_law_k -/
def a__law_wide : AS :=
  aSeq (aSetC 2 (aCall c__law_draw (aCons (aV 0) (aCons (aC (.int 3)) (aCons (aBin dShl (aC (.int 1)) (aC (.int 20))) (aNil)))))) (aSeq (aSetC 3 (aBin dAdd (aC (.int 4)) (aBin dMod (aBin dIx (aV 2) (aC (.int 0))) (aC (.int 4))))) (aSeq (aSetC 4 (aBin dAdd (aBin dAdd (aLst (aCons (aC (.str "host")) (aNil))) (aBin dMul (aLst (aCons (aC (.str "switch")) (aNil))) (aV 3))) (aLst (aCons (aC (.str "host")) (aNil))))) (aSeq (aSet 5 (aLst (aNil))) (aSeq (aFor (iR1 (aCons (aCB fLen1 (aCons (aV 4) (aNil))) (aNil))) (agN 6) (aFor (iR1 (aCons (aV 6) (aNil))) (agN 7) (aIf (aOr (aB (aBin (dGt) (aV 7) (aC (.int 0)))) (aB (aBin (dLt) (aV 6) (aBin dSub (aCB fLen1 (aCons (aV 4) (aNil))) (aC (.int 1)))))) (aMut "list" 5 mAppend (aCons (aTup (aCons (aV 6) (aCons (aV 7) (aNil)))) (aNil))) (aNext)))) (aSeq (aSetC 8 (aCall c__law_draw (aCons (aV 1) (aCons (aCB fLen1 (aCons (aV 5) (aNil))) (aCons (aBin dShl (aC (.int 1)) (aC (.int 20))) (aNil)))))) (aSeq (aSetC 9 (aLc (iR1 (aCons (aCB fLen1 (aCons (aV 5) (aNil))) (aNil))) (agN 10) (aB (aBin (dLt) (aBin dMod (aBin dIx (aV 8) (aV 10)) (aC (.int 7))) (aBin dAdd (aC (.int 2)) (aBin dMod (aBin dIx (aV 2) (aC (.int 1))) (aC (.int 2)))))) (aTup (aCons (aBin dIx (aBin dIx (aV 5) (aV 10)) (aC (.int 0))) (aCons (aBin dIx (aBin dIx (aV 5) (aV 10)) (aC (.int 1))) (aCons (aC (.int 0)) (aNil))))) [10])) (aRet (aMakeD 0 c_Net___init__ (aCons (aV 4) (aCons (aV 9) (aNil))) [0, 0]))))))))
theorem w__law_wide : ∀ ws P, c__law_wide ws P → a__law_wide { nx := fun _ => P (.cl .non), rt := fun w _ => P w } (startA 11 ws) := by
  rintro ws P ⟨c1, c2, rfl, h⟩
  show a__law_wide _ [.im (.int c1), .im (.int c2), .non, .non, .non, .non, .non, .non, .non, .non, .non]
  unfold a__law_wide
  walk_at "vs"
  refine ⟨by decide, c1, 3, _, rfl, by decide, by decide, by decide, fun xs hl hx => ?_⟩
  obtain ⟨n0, n1, n2, rfl⟩ := len_3 (show xs.length = 3 from hl)
  walk_at "vs"
  obtain ⟨sw, hsw, sw4, sw7⟩ : ∃ sw : Nat, (sw : Int) = 4 + n0 % 4 ∧ 4 ≤ sw ∧ sw ≤ 7 := ⟨(4 + n0 % 4).toNat, by omega, by omega, by omega⟩
  rw [show ixD (List.map D.int [n0, n1, n2]) 0 = some (.int n0) from rfl]
  simp only []
  rw [← hsw, Int.toNat_natCast]
  have eK : D.str (Str.ofString "host") :: ((List.replicate sw [D.str (Str.ofString "switch")]).flatten ++ [D.str (Str.ofString "host")]) = (wideK sw).map kD := by
    unfold wideK
    rw [List.map_cons, List.map_append]
    congr 2
    clear hsw sw4 sw7
    induction sw with
    | zero => rfl
    | succ m ih => rw [List.replicate_succ, List.flatten_cons, List.replicate_succ, List.map_cons, ← ih]; rfl
  have eL : (List.replicate sw [D.str (Str.ofString "switch")]).flatten.length = sw := by simp
  have eL2 : ((List.replicate sw [D.str (Str.ofString "switch")]).flatten ++ [D.str (Str.ofString "host")]).length + 1 = sw + 2 := by rw [List.length_append, eL]; rfl
  rw [eK, eL, eL2]
  refine ⟨by decide, by decide, by decide, by omega, by omega, by decide, by omega, by decide, by omega, ?_⟩
  obtain ⟨XS, hXS⟩ : ∃ XS, XS = List.map D.int [n0, n1, n2] := ⟨_, rfl⟩
  rw [← hXS]
  have hkl := wideK_len sw
  refine for_up (fun i δ => ∃ (ps : List (Int × Int)) (x y : AV), δ = [.im (.int c1), .im (.int c2), .im (.lst XS), .im (.int (sw : Int)), .im (.lst ((wideK sw).map kD)), .ow false (.fl (ps.map pD)), x, y, .non, .non, .non] ∧ PairsTo (wideK sw) ps i 0) ⟨[], _, _, rfl, List.nodup_nil, fun p hp => (nomatch hp), fun p hp => (nomatch hp), by simp⟩ ?_ ?_
  · rintro i δ hi ⟨ps, x, y, rfl, hp⟩
    have hi : i < sw + 2 := by omega
    walk_at "vs"
    refine ⟨by omega, ?_⟩
    refine for_up (fun j δ => ∃ (ps : List (Int × Int)) (y : AV), δ = [.im (.int c1), .im (.int c2), .im (.lst XS), .im (.int (sw : Int)), .im (.lst ((wideK sw).map kD)), .ow false (.fl (ps.map pD)), .im (.int (0 + (i : Int))), y, .non, .non, .non] ∧ PairsTo (wideK sw) ps i j) ⟨ps, _, rfl, hp⟩ ?_ ?_
    · rintro j δ hj ⟨ps, y, rfl, hp⟩
      have hj : j < i := by omega
      have hpl := hp.ln
      have ht := tri_le9 (show i ≤ 9 by omega)
      walk_at "vs"
      rw [hkl]
      have e1 : (0 + (i : Int)) = (i : Int) := by omega
      have e2 : (0 + (j : Int)) = (j : Int) := by omega
      rw [e1, e2]
      have add : ((wideK sw).getD i false = false ∨ (wideK sw).getD j false = false) → (0 + 1 + 1 ≤ 1000000 ∧ ps.length < 1000000 ∧ ∃ (ps' : List (Int × Int)) (y : AV), ([.im (.int c1), .im (.int c2), .im (.lst XS), .im (.int (sw : Int)), .im (.lst ((wideK sw).map kD)), .ow false (.fl (ps.map pD ++ [D.tup [.int (i : Int), .int (j : Int)]])), .im (.int (i : Int)), .im (.int (j : Int)), .non, .non, .non] : List AV) = [.im (.int c1), .im (.int c2), .im (.lst XS), .im (.int (sw : Int)), .im (.lst ((wideK sw).map kD)), .ow false (.fl (ps'.map pD)), .im (.int (i : Int)), y, .non, .non, .non] ∧ PairsTo (wideK sw) ps' i (j + 1)) := fun hs =>
        ⟨by decide, by omega, ps ++ [((i : Int), (j : Int))], _, by rw [List.map_append]; rfl, hp.add hj hs⟩
      by_cases k1 : 0 < (j : Int)
      · exact ite_yes k1 (add (.inr (wideK_in (by omega) (by omega))))
      · refine ite_no k1 ?_
        by_cases k2 : (i : Int) < ((sw + 2 : Nat) : Int) - 1
        · exact ite_yes k2 (add (.inl (wideK_in (by omega) (by omega))))
        · exact ite_no k2 ⟨ps, _, rfl, hp.skip⟩
    · rintro δ ⟨ps, y, rfl, hp⟩
      rw [show (0 + (i : Int)).toNat = i by omega] at hp
      exact ⟨ps, _, _, rfl, hp.row rfl⟩
  rintro δ ⟨ps, x, y, rfl, hp⟩
  have hp : PairsTo (wideK sw) ps (sw + 2) 0 := hp
  have hpl : ps.length ≤ 36 := by have := hp.ln; have := tri_le9 (show sw + 2 ≤ 9 by omega); omega
  walk_at "vs"
  refine ⟨by decide, c2, (ps.length : Int), _, rfl, by omega, by decide, by decide, fun ds hdl hdx => ?_⟩
  have hdl : ds.length = ps.length := by omega
  simp only []
  refine ⟨by omega, ?_⟩
  rw [show ((ps.length : Int)).toNat = ps.length by omega]
  refine lc_map (fun i : Nat => D.int (0 + (i : Int))) (fun i => decide (ds.getD i 0 % 7 < 2 + n1 % 2)) (fun i => lnD ((ps.getD i (0, 0)).1, (ps.getD i (0, 0)).2, 0)) (List.range ps.length) [] (by simp; omega) (fun i hi K L q1 q2 => ?_) ?_
  · have hi := List.mem_range.mp hi
    have e1 : ixD (ds.map D.int) (0 + (i : Int)) = some (.int (ds.getD i 0)) := ixD_map D.int (by omega) (by rw [show (0 + (i : Int)).toNat = i by omega]; exact getD_at (by omega))
    have e2 : ixD (ps.map pD) (0 + (i : Int)) = some (pD (ps.getD i (0, 0))) := ixD_map pD (by omega) (by rw [show (0 + (i : Int)).toNat = i by omega, List.getD_eq_getElem?_getD, List.getElem?_eq_getElem hi]; rfl)
    walk_at "vs"
    rw [e1, e2, hXS, show ixD (List.map D.int [n0, n1, n2]) 1 = some (.int n1) from rfl]
    simp only []
    refine ⟨by decide, by decide, ?_⟩
    by_cases c : ds.getD i 0 % 7 < 2 + n1 % 2
    · refine ite_yes c ?_
      rw [show pD (ps.getD i (0, 0)) = .tup [.int (ps.getD i (0, 0)).1, .int (ps.getD i (0, 0)).2] from rfl]
      walk_at "vs"
      exact ⟨by decide, q1 (decide_eq_true c)⟩
    · exact ite_no c (q2 (decide_eq_false c))
  rw [List.nil_append]
  obtain ⟨is, his⟩ : ∃ is, is = (List.range ps.length).filter fun i => decide (ds.getD i 0 % 7 < 2 + n1 % 2) := ⟨_, rfl⟩
  rw [← his]
  have hall : (List.range ps.length).map (fun i => ps.getD i (0, 0)) = ps := by
    apply List.ext_getElem?
    intro i
    rw [List.getElem?_map]
    by_cases hi : i < ps.length
    · rw [List.getElem?_range hi, List.getElem?_eq_getElem hi]
      show some (ps.getD i (0, 0)) = _
      rw [List.getD_eq_getElem?_getD, List.getElem?_eq_getElem hi]
      rfl
    · rw [List.getElem?_eq_none_iff.mpr (by simpa using hi), List.getElem?_eq_none_iff.mpr (by omega)]
      rfl
  have hsub : (is.map fun i => ps.getD i (0, 0)).Sublist ps := by
    have := List.Sublist.map (fun i => ps.getD i (0, 0)) (show is.Sublist (List.range ps.length) by rw [his]; exact List.filter_sublist)
    rwa [hall] at this
  obtain ⟨qs, hqs⟩ : ∃ qs, qs = is.map fun i => ps.getD i (0, 0) := ⟨_, rfl⟩
  rw [← hqs] at hsub
  have elines : is.map (fun i => lnD ((ps.getD i (0, 0)).1, (ps.getD i (0, 0)).2, 0)) = (qs.map fun q => ((q.1, q.2, 0) : Ln)).map lnD := by
    rw [hqs, List.map_map, List.map_map]
    rfl
  rw [elines]
  have hlt : ∀ q ∈ qs, 0 ≤ q.2 ∧ q.2 < q.1 ∧ q.1 < ((sw + 2 : Nat) : Int) := fun q hq => by
    have := hp.lt q (hsub.subset hq)
    omega
  walk_at "vs"
  refine ⟨_, _, _, _, _, _, rfl, .inl rfl, .inl rfl, h ⟨wideK sw, qs.map fun q => (q.1, q.2, 0), 0, 0⟩ ⟨by show (wideK sw).length ≤ 60; omega, ?_, fun w hw => ?_, ?_⟩ ⟨?_, ?_, ?_, ?_, ?_⟩⟩
  · show (qs.map fun q => ((q.1, q.2, 0) : Ln)).length ≤ 60
    rw [List.length_map]
    have := hsub.length_le
    omega
  · obtain ⟨q, hq, rfl⟩ := List.mem_map.mp (show w ∈ qs.map fun q => ((q.1, q.2, 0) : Ln) from hw)
    have := hlt q hq
    show (0 ≤ q.1 ∧ q.1 < ((wideK sw).length : Int)) ∧ (0 ≤ q.2 ∧ q.2 < ((wideK sw).length : Int)) ∧ q.1 ≠ q.2
    rw [hkl]
    omega
  · show ((qs.map fun q => ((q.1, q.2, 0) : Ln)).map normL).Nodup
    rw [List.map_map]
    have : qs.map (normL ∘ fun q => ((q.1, q.2, 0) : Ln)) = qs := by
      conv => rhs; rw [← List.map_id qs]
      refine List.map_congr_left fun q hq => ?_
      exact normL_1 (hlt q hq).2.1
    rw [this]
    exact hsub.nodup hp.nd
  · show 0 ≤ (0 : Int) ∧ (0 : Int) < ((wideK sw).length : Int)
    omega
  · show 0 ≤ ((wideK sw).length : Int) - 1 ∧ ((wideK sw).length : Int) - 1 < ((wideK sw).length : Int)
    omega
  · rfl
  · show (wideK sw).getD (((wideK sw).length : Int) - 1).toNat false = true
    rw [hkl, show (((sw + 2 : Nat) : Int) - 1).toNat = sw + 1 by omega]
    exact wideK_last sw
  · show (0 : Int) ≠ ((wideK sw).length : Int) - 1
    omega
def c_law : Ct := fun ws Q => ∃ ns : List Int, ws = [.cl (.scr ns)] ∧ ns.length ≤ 63 ∧ Q (.cl (.bl true))
theorem l_law : ∀ ws P, c_law ws P → ws.length = 1 := by rintro ws P ⟨c, rfl, _⟩; rfl
/-- law: slots 0=_law_script 1=_law_net_here 2=_law_hosts 3=_law_a 4=_law_first 5=_law_last 6=_law_wide_here -/
def a_law : AS :=
  aSeq (aSetC 1 (aCall c__law_net (aCons (aCall c__law_cell (aCons (aV 0) (aCons (aC (.int 0)) (aNil)))) (aCons (aCall c__law_cell (aCons (aV 0) (aCons (aC (.int 1)) (aNil)))) (aNil))))) (aSeq (aSetC 2 (aLc (iR1 (aCons (aCB fLen1 (aCons (aFld 0 0 (aV 1)) (aNil))) (aNil))) (agN 3) (aB (aBin (dEq) (aBin dIx (aFld 0 0 (aV 1)) (aV 3)) (aC (.str "host")))) (aV 3) [3])) (aSeq (aFor (iLst (aV 2)) (agN 4) (aFor (iLst (aV 2)) (agN 5) (aIf (aAnd (aB (aBin (dNe) (aV 4) (aV 5))) (aNot (aB (aCall c__law_pair_holds (aCons (aV 1) (aCons (aV 4) (aCons (aV 5) (aNil)))))))) (aRet (aC (.bl false))) (aNext)))) (aSeq (aSetC 6 (aCall c__law_wide (aCons (aCall c__law_cell (aCons (aV 0) (aCons (aC (.int 2)) (aNil)))) (aCons (aCall c__law_cell (aCons (aV 0) (aCons (aC (.int 3)) (aNil)))) (aNil))))) (aRet (aCall c__law_pair_holds (aCons (aV 6) (aCons (aC (.int 0)) (aCons (aBin dSub (aCB fLen1 (aCons (aFld 0 0 (aV 6)) (aNil))) (aC (.int 1))) (aNil)))))))))
theorem w_law : ∀ ws P, c_law ws P → a_law { nx := fun _ => P (.cl .non), rt := fun w _ => P w } (startA 7 ws) := by
  rintro ws P ⟨ns, rfl, hns, h⟩
  show a_law _ [.im (.scr ns), .non, .non, .non, .non, .non, .non]
  unfold a_law
  walk_at "vs"
  refine ⟨ns, 0, rfl, by decide, ?_⟩
  walk_at "vs"
  refine ⟨ns, 1, rfl, by decide, ?_⟩
  walk_at "vs"
  refine ⟨_, _, rfl, fun N hN => ?_⟩
  have h3 := hN.n3
  have h7 := hN.n7
  rw [show netD N = .ins 0 [.lst (N.ks.map kD), .lst (N.ls.map lnD), .int N.pr, .int N.er] from rfl]
  walk_at "vs"
  refine ⟨by omega, ?_⟩
  refine lc_map (fun i : Nat => D.int (0 + (i : Int))) (fun i => hostN N (0 + (i : Int))) (fun i => D.int (0 + (i : Int))) (List.range (N.ks.length : Int).toNat) [] (by simp; omega) (fun i hi K L q1 q2 => ?_) ?_
  · have hi : i < N.ks.length := by have := List.mem_range.mp hi; omega
    walk_at "vs"
    rw [ixD_kD (by omega) (by omega), show N.ks.getD (0 + (i : Int)).toNat false = hostN N (0 + (i : Int)) from rfl]
    simp only [okD_k, eqD_kh, true_and]
    refine ⟨okD_k true, ?_⟩
    cases hb : hostN N (0 + (i : Int)) with
    | true => exact ite_yes rfl (q1 hb)
    | false => exact ite_no (by decide) (q2 hb)
  rw [List.nil_append]
  obtain ⟨hs, hhs⟩ : ∃ hs : List Int, hs = ((List.range (N.ks.length : Int).toNat).filter fun (i : Nat) => hostN N (0 + (i : Int))).map fun (i : Nat) => (0 + (i : Int)) := ⟨_, rfl⟩
  have e0 : ((List.range (N.ks.length : Int).toNat).filter fun (i : Nat) => hostN N (0 + (i : Int))).map (fun (i : Nat) => D.int (0 + (i : Int))) = hs.map D.int := by rw [hhs, List.map_map]; rfl
  rw [e0]
  have hin : ∀ a ∈ hs, (0 ≤ a ∧ a < N.ks.length) ∧ hostN N a = true := fun a ha => by
    rw [hhs] at ha
    obtain ⟨i, hi, rfl⟩ := List.mem_map.mp ha
    obtain ⟨h1, h2⟩ := List.mem_filter.mp hi
    have := List.mem_range.mp h1
    exact ⟨by omega, h2⟩
  walk_at "vs"
  obtain ⟨ND, hND⟩ : ∃ ND, ND = D.ins 0 [.lst (N.ks.map kD), .lst (N.ls.map lnD), .int N.pr, .int N.er] := ⟨_, rfl⟩
  rw [← hND]
  refine for_map D.int hs (fun r δ => ∃ x4 x5, δ = [.im (.scr ns), .im ND, .im (.lst (hs.map .int)), .non, x4, x5, .non]) ⟨_, _, rfl⟩ ?_ ?_
  · rintro a r δ ⟨l0, hl0⟩ ⟨x4, x5, rfl⟩
    obtain ⟨ra, ha⟩ := hin a (by rw [hl0]; simp)
    walk_at "vs"
    refine for_map D.int hs (fun r δ => ∃ x5, δ = [.im (.scr ns), .im ND, .im (.lst (hs.map .int)), .non, .im (.int a), x5, .non]) ⟨_, rfl⟩ ?_ ?_
    · rintro b r2 δ ⟨l1, hl1⟩ ⟨x5, rfl⟩
      obtain ⟨rb, hb⟩ := hin b (by rw [hl1]; simp)
      walk_at "vs"
      by_cases c : a = b
      · exact ite_no (by rw [decide_eq_true c]; decide) ⟨_, rfl⟩
      · exact ite_yes (by rw [decide_eq_false c]; rfl) ⟨N, a, b, by rw [hND], hN.w, ⟨ra, rb, ha, hb, c⟩, ite_no (by decide) ⟨_, rfl⟩⟩
    · rintro δ ⟨x5, rfl⟩
      exact ⟨_, _, rfl⟩
  · rintro δ ⟨x4, x5, rfl⟩
    walk_at "vs"
    refine ⟨ns, 2, rfl, by decide, ?_⟩
    walk_at "vs"
    refine ⟨ns, 3, rfl, by decide, ?_⟩
    walk_at "vs"
    refine ⟨_, _, rfl, fun M hM hE => ?_⟩
    walk_at "vs"
    exact ⟨M, 0, (M.ks.length : Int) - 1, rfl, hM, hE, h⟩
end Vl
namespace Vl
open PySem PySem.Spec PyProof.Rows L2
/-! ### the text -/
def topS (i : Nat) : Stmt := PySem.Challenge.pw_metronet_k03_whole_two_ways_or_a_bottlen.main.body.getD i (.Pass ⟨0, 0, 0, 0⟩)
abbrev s__law_cell : Stmt := topS 15
abbrev N__law_cell : List Str := ["_law_script", "_law_k"]
theorem sc__law_cell : FnScope N__law_cell ["_law_script", "_law_k"] (defScope s__law_cell) := ⟨rfl, rfl, rfl, by decide +kernel, rfl, by decide +kernel, by decide +kernel⟩
abbrev s_Net___init__ : Stmt := inClass (topS 12) 0
abbrev N_Net___init__ : List Str := ["self", "kinds", "lines", "processing", "error"]
theorem sc_Net___init__ : FnScope N_Net___init__ ["self", "kinds", "lines", "processing", "error"] (defScope s_Net___init__) := ⟨rfl, rfl, rfl, by decide +kernel, rfl, by decide +kernel, by decide +kernel⟩
abbrev s__law_draw : Stmt := topS 14
abbrev N__law_draw : List Str := ["_law_cell_here", "_law_many", "_law_bound", "_law_numbers", "_law_k", "_law_seed", "_law_mixed"]
theorem sc__law_draw : FnScope N__law_draw ["_law_cell_here", "_law_many", "_law_bound"] (defScope s__law_draw) := ⟨rfl, rfl, rfl, by decide +kernel, rfl, by decide +kernel, by decide +kernel⟩
abbrev s__law_net : Stmt := topS 16
abbrev N__law_net : List Str := ["_law_cell_here", "_law_more", "_law_numbers", "_law_hosts", "_law_switches", "_law_kinds", "_law_k", "_law_pairs", "_law_a", "_law_b", "_law_draws", "_law_lines", "_law_near"]
theorem sc__law_net : FnScope N__law_net ["_law_cell_here", "_law_more"] (defScope s__law_net) := ⟨rfl, rfl, rfl, by decide +kernel, rfl, by decide +kernel, by decide +kernel⟩
abbrev s__law_wide : Stmt := topS 19
abbrev N__law_wide : List Str := ["_law_cell_here", "_law_more", "_law_numbers", "_law_switches", "_law_kinds", "_law_pairs", "_law_a", "_law_b", "_law_draws", "_law_lines", "_law_k"]
theorem sc__law_wide : FnScope N__law_wide ["_law_cell_here", "_law_more"] (defScope s__law_wide) := ⟨rfl, rfl, rfl, by decide +kernel, rfl, by decide +kernel, by decide +kernel⟩
abbrev s_Net_neighbours : Stmt := inClass (topS 12) 2
abbrev N_Net_neighbours : List Str := ["self", "a", "found", "first", "second", "ticks"]
theorem sc_Net_neighbours : FnScope N_Net_neighbours ["self", "a"] (defScope s_Net_neighbours) := ⟨rfl, rfl, rfl, by decide +kernel, rfl, by decide +kernel, by decide +kernel⟩
abbrev s__levels : Stmt := topS 1
abbrev N__levels : List Str := ["net", "first", "last", "without", "cut", "steps", "border", "further", "node", "other"]
theorem sc__levels : FnScope N__levels ["net", "first", "last", "without", "cut"] (defScope s__levels) := ⟨rfl, rfl, rfl, by decide +kernel, rfl, by decide +kernel, by decide +kernel⟩
abbrev s__path_without : Stmt := topS 2
abbrev N__path_without : List Str := ["net", "first", "last", "without", "cut", "steps", "path", "here", "other", "known"]
theorem sc__path_without : FnScope N__path_without ["net", "first", "last", "without", "cut"] (defScope s__path_without) := ⟨rfl, rfl, rfl, by decide +kernel, rfl, by decide +kernel, by decide +kernel⟩
abbrev s_shortest_path : Stmt := topS 3
abbrev N_shortest_path : List Str := ["net", "first", "last"]
theorem sc_shortest_path : FnScope N_shortest_path ["net", "first", "last"] (defScope s_shortest_path) := ⟨rfl, rfl, rfl, by decide +kernel, rfl, by decide +kernel, by decide +kernel⟩
abbrev s_bottleneck : Stmt := topS 4
abbrev N_bottleneck : List Str := ["net", "first", "last", "node", "a", "b", "delay"]
theorem sc_bottleneck : FnScope N_bottleneck ["net", "first", "last"] (defScope s_bottleneck) := ⟨rfl, rfl, rfl, by decide +kernel, rfl, by decide +kernel, by decide +kernel⟩
abbrev s__arcs : Stmt := topS 5
abbrev N__arcs : List Str := ["net", "first", "last", "arcs", "node", "line", "a", "b", "leaves", "enters"]
theorem sc__arcs : FnScope N__arcs ["net", "first", "last"] (defScope s__arcs) := ⟨rfl, rfl, rfl, by decide +kernel, rfl, by decide +kernel, by decide +kernel⟩
abbrev s__walk : Stmt := topS 6
abbrev N__walk : List Str := ["arcs", "used", "source", "sink", "before", "waiting", "here", "x", "y"]
theorem sc__walk : FnScope N__walk ["arcs", "used", "source", "sink"] (defScope s__walk) := ⟨rfl, rfl, rfl, by decide +kernel, rfl, by decide +kernel, by decide +kernel⟩
abbrev s__add_walk : Stmt := topS 7
abbrev N__add_walk : List Str := ["used", "before", "sink", "here", "last"]
theorem sc__add_walk : FnScope N__add_walk ["used", "before", "sink"] (defScope s__add_walk) := ⟨rfl, rfl, rfl, by decide +kernel, rfl, by decide +kernel, by decide +kernel⟩
abbrev s__followed : Stmt := topS 8
abbrev N__followed : List Str := ["used", "source", "sink", "path", "here", "x", "y"]
theorem sc__followed : FnScope N__followed ["used", "source", "sink"] (defScope s__followed) := ⟨rfl, rfl, rfl, by decide +kernel, rfl, by decide +kernel, by decide +kernel⟩
abbrev s_separate_paths : Stmt := topS 9
abbrev N_separate_paths : List Str := ["net", "first", "last", "arcs", "source", "sink", "used", "turn", "before", "one"]
theorem sc_separate_paths : FnScope N_separate_paths ["net", "first", "last"] (defScope s_separate_paths) := ⟨rfl, rfl, rfl, by decide +kernel, rfl, by decide +kernel, by decide +kernel⟩
abbrev s__law_open : Stmt := topS 20
abbrev N__law_open : List Str := ["_law_net_here", "_law_first", "_law_last", "_law_node", "_law_line", "_law_found", "_law_turn", "_law_more", "_law_a", "_law_b", "_law_ticks", "_law_x", "_law_y"]
theorem sc__law_open : FnScope N__law_open ["_law_net_here", "_law_first", "_law_last", "_law_node", "_law_line"] (defScope s__law_open) := ⟨rfl, rfl, rfl, by decide +kernel, rfl, by decide +kernel, by decide +kernel⟩
abbrev s__law_bottleneck : Stmt := topS 21
abbrev N__law_bottleneck : List Str := ["_law_net_here", "_law_first", "_law_last", "_law_node", "_law_pair", "_law_a", "_law_b", "_law_ticks"]
theorem sc__law_bottleneck : FnScope N__law_bottleneck ["_law_net_here", "_law_first", "_law_last"] (defScope s__law_bottleneck) := ⟨rfl, rfl, rfl, by decide +kernel, rfl, by decide +kernel, by decide +kernel⟩
abbrev s__law_joined : Stmt := topS 17
abbrev N__law_joined : List Str := ["_law_net_here", "_law_a", "_law_b", "_law_first", "_law_second", "_law_ticks"]
theorem sc__law_joined : FnScope N__law_joined ["_law_net_here", "_law_a", "_law_b"] (defScope s__law_joined) := ⟨rfl, rfl, rfl, by decide +kernel, rfl, by decide +kernel, by decide +kernel⟩
abbrev s__law_right : Stmt := topS 22
abbrev N__law_right : List Str := ["_law_net_here", "_law_path", "_law_first", "_law_last", "_law_k"]
theorem sc__law_right : FnScope N__law_right ["_law_net_here", "_law_path", "_law_first", "_law_last"] (defScope s__law_right) := ⟨rfl, rfl, rfl, by decide +kernel, rfl, by decide +kernel, by decide +kernel⟩
abbrev s__law_pair_holds : Stmt := topS 23
abbrev N__law_pair_holds : List Str := ["_law_net_here", "_law_first", "_law_last", "_law_told", "_law_narrow", "_law_due", "_law_inner", "_law_node"]
theorem sc__law_pair_holds : FnScope N__law_pair_holds ["_law_net_here", "_law_first", "_law_last"] (defScope s__law_pair_holds) := ⟨rfl, rfl, rfl, by decide +kernel, rfl, by decide +kernel, by decide +kernel⟩
abbrev s_law : Stmt := topS 24
abbrev N_law : List Str := ["_law_script", "_law_net_here", "_law_hosts", "_law_a", "_law_first", "_law_last", "_law_wide_here"]
theorem sc_law : FnScope N_law ["_law_script"] (defScope s_law) := ⟨rfl, rfl, rfl, by decide +kernel, rfl, by decide +kernel, by decide +kernel⟩
abbrev fs_Net : List Str := ["kinds", "lines", "processing", "error"]
theorem nd_Net : fs_Net.Nodup := by decide
theorem no_Net_neighbours : ("neighbours" : Str) ∉ fs_Net := by decide
structure Tx (K : PySem.W.Frag) (mg : Str → Option Value) where
  C_Net : Addr
  cl_Net : Cls K C_Net
  n_Net_kinds : NoAttr K C_Net "kinds"
  n_Net_lines : NoAttr K C_Net "lines"
  n_Net_processing : NoAttr K C_Net "processing"
  n_Net_error : NoAttr K C_Net "error"
  f__law_cell : Addr
  d__law_cell : FuncData
  F__law_cell : Fun K "_law_cell" "_law_cell" s__law_cell f__law_cell d__law_cell
  b__law_cell : Binds K d__law_cell ["_law_script", "_law_k"] []
  m__law_cell : mg "_law_cell" = some (.ref f__law_cell)
  f_Net___init__ : Addr
  d_Net___init__ : FuncData
  F_Net___init__ : Fun K "__init__" "Net.__init__" s_Net___init__ f_Net___init__ d_Net___init__
  kb_Net___init__ : KBn K d_Net___init__ ["self", "kinds", "lines", "processing", "error"] 3 ["processing", "error"] (fun us ws => us ++ ws) (fun vs zs => vs ++ zs)
  bd_Net___init__ : ∃ ds, Vals ([0, 0].map V.int) ds ∧ Binds K d_Net___init__ ["self", "kinds", "lines", "processing", "error"] ds
  mk_Net : Mk K C_Net f_Net___init__
  mC_Net : mg "Net" = some (.ref C_Net)
  f__law_draw : Addr
  d__law_draw : FuncData
  F__law_draw : Fun K "_law_draw" "_law_draw" s__law_draw f__law_draw d__law_draw
  b__law_draw : Binds K d__law_draw ["_law_cell_here", "_law_many", "_law_bound"] []
  m__law_draw : mg "_law_draw" = some (.ref f__law_draw)
  f__law_net : Addr
  d__law_net : FuncData
  F__law_net : Fun K "_law_net" "_law_net" s__law_net f__law_net d__law_net
  b__law_net : Binds K d__law_net ["_law_cell_here", "_law_more"] []
  m__law_net : mg "_law_net" = some (.ref f__law_net)
  f__law_wide : Addr
  d__law_wide : FuncData
  F__law_wide : Fun K "_law_wide" "_law_wide" s__law_wide f__law_wide d__law_wide
  b__law_wide : Binds K d__law_wide ["_law_cell_here", "_law_more"] []
  m__law_wide : mg "_law_wide" = some (.ref f__law_wide)
  f_Net_neighbours : Addr
  d_Net_neighbours : FuncData
  F_Net_neighbours : Fun K "neighbours" "Net.neighbours" s_Net_neighbours f_Net_neighbours d_Net_neighbours
  b_Net_neighbours : Binds K d_Net_neighbours ["self", "a"] []
  mt_Net_neighbours : Meth K C_Net "neighbours" f_Net_neighbours
  f__levels : Addr
  d__levels : FuncData
  F__levels : Fun K "_levels" "_levels" s__levels f__levels d__levels
  b__levels : Binds K d__levels ["net", "first", "last", "without", "cut"] []
  m__levels : mg "_levels" = some (.ref f__levels)
  f__path_without : Addr
  d__path_without : FuncData
  F__path_without : Fun K "_path_without" "_path_without" s__path_without f__path_without d__path_without
  b__path_without : Binds K d__path_without ["net", "first", "last", "without", "cut"] []
  m__path_without : mg "_path_without" = some (.ref f__path_without)
  f_shortest_path : Addr
  d_shortest_path : FuncData
  F_shortest_path : Fun K "shortest_path" "shortest_path" s_shortest_path f_shortest_path d_shortest_path
  b_shortest_path : Binds K d_shortest_path ["net", "first", "last"] []
  m_shortest_path : mg "shortest_path" = some (.ref f_shortest_path)
  f_bottleneck : Addr
  d_bottleneck : FuncData
  F_bottleneck : Fun K "bottleneck" "bottleneck" s_bottleneck f_bottleneck d_bottleneck
  b_bottleneck : Binds K d_bottleneck ["net", "first", "last"] []
  m_bottleneck : mg "bottleneck" = some (.ref f_bottleneck)
  f__arcs : Addr
  d__arcs : FuncData
  F__arcs : Fun K "_arcs" "_arcs" s__arcs f__arcs d__arcs
  b__arcs : Binds K d__arcs ["net", "first", "last"] []
  m__arcs : mg "_arcs" = some (.ref f__arcs)
  f__walk : Addr
  d__walk : FuncData
  F__walk : Fun K "_walk" "_walk" s__walk f__walk d__walk
  b__walk : Binds K d__walk ["arcs", "used", "source", "sink"] []
  m__walk : mg "_walk" = some (.ref f__walk)
  f__add_walk : Addr
  d__add_walk : FuncData
  F__add_walk : Fun K "_add_walk" "_add_walk" s__add_walk f__add_walk d__add_walk
  b__add_walk : Binds K d__add_walk ["used", "before", "sink"] []
  m__add_walk : mg "_add_walk" = some (.ref f__add_walk)
  f__followed : Addr
  d__followed : FuncData
  F__followed : Fun K "_followed" "_followed" s__followed f__followed d__followed
  b__followed : Binds K d__followed ["used", "source", "sink"] []
  m__followed : mg "_followed" = some (.ref f__followed)
  f_separate_paths : Addr
  d_separate_paths : FuncData
  F_separate_paths : Fun K "separate_paths" "separate_paths" s_separate_paths f_separate_paths d_separate_paths
  b_separate_paths : Binds K d_separate_paths ["net", "first", "last"] []
  m_separate_paths : mg "separate_paths" = some (.ref f_separate_paths)
  f__law_open : Addr
  d__law_open : FuncData
  F__law_open : Fun K "_law_open" "_law_open" s__law_open f__law_open d__law_open
  b__law_open : Binds K d__law_open ["_law_net_here", "_law_first", "_law_last", "_law_node", "_law_line"] []
  m__law_open : mg "_law_open" = some (.ref f__law_open)
  f__law_bottleneck : Addr
  d__law_bottleneck : FuncData
  F__law_bottleneck : Fun K "_law_bottleneck" "_law_bottleneck" s__law_bottleneck f__law_bottleneck d__law_bottleneck
  b__law_bottleneck : Binds K d__law_bottleneck ["_law_net_here", "_law_first", "_law_last"] []
  m__law_bottleneck : mg "_law_bottleneck" = some (.ref f__law_bottleneck)
  f__law_joined : Addr
  d__law_joined : FuncData
  F__law_joined : Fun K "_law_joined" "_law_joined" s__law_joined f__law_joined d__law_joined
  b__law_joined : Binds K d__law_joined ["_law_net_here", "_law_a", "_law_b"] []
  m__law_joined : mg "_law_joined" = some (.ref f__law_joined)
  f__law_right : Addr
  d__law_right : FuncData
  F__law_right : Fun K "_law_right" "_law_right" s__law_right f__law_right d__law_right
  b__law_right : Binds K d__law_right ["_law_net_here", "_law_path", "_law_first", "_law_last"] []
  m__law_right : mg "_law_right" = some (.ref f__law_right)
  f__law_pair_holds : Addr
  d__law_pair_holds : FuncData
  F__law_pair_holds : Fun K "_law_pair_holds" "_law_pair_holds" s__law_pair_holds f__law_pair_holds d__law_pair_holds
  b__law_pair_holds : Binds K d__law_pair_holds ["_law_net_here", "_law_first", "_law_last"] []
  m__law_pair_holds : mg "_law_pair_holds" = some (.ref f__law_pair_holds)
  f_law : Addr
  d_law : FuncData
  F_law : Fun K "law" "law" s_law f_law d_law
  b_law : Binds K d_law ["_law_script"] []
  m_law : mg "law" = some (.ref f_law)
  n_int : mg "int" = none
  n_isinstance : mg "isinstance" = none
  n_len : mg "len" = none
  n_list : mg "list" = none
  n_max : mg "max" = none
  n_min : mg "min" = none
  n_range : mg "range" = none
  n_sorted : mg "sorted" = none
  n_tuple : mg "tuple" = none
def tb (P : Program) (w : World) {K : PySem.W.Frag} {mg : Str → Option Value} (t : Tx K mg) : Tb := ⟨K, fun n => match n with | 0 => t.C_Net | _ => 0, fun n => match n with | 0 => fs_Net | _ => [], P, w⟩
section
variable {P : Program} {w : World} {K : PySem.W.Frag} {mg : Str → Option Value} {base : Heap}
theorem ok__law_cell (t : Tx K mg) : FnOk P w K mg base CX0 1 t.f__law_cell t.d__law_cell ["_law_script", "_law_k"] (spC (tb P w t) c__law_cell) :=
  fn_ok (T := tb P w t) (a := a__law_cell) t.F__law_cell sc__law_cell l__law_cell (by decide) (fun cdv A outer s H E hr =>
    ss_cons (s_if (t_cmp op_lt b_lt (e_v 1) (e_cb call_lenAll c_len (by rfl) t.n_len (by decide +kernel) (a_cons (e_v 0) (a_nil))) (nomark _)) (ss_one (s_ret (e_ix rfl (e_v 0) (e_v 1) (fun _ _ => rfl)))) (ss_nil)) (ss_one (s_ret (e_int)))) w__law_cell
theorem ok_Net___init__ (t : Tx K mg) : FnOk P w K mg base CX0 1 t.f_Net___init__ t.d_Net___init__ ["self", "kinds", "lines", "processing", "error"] (spI (tb P w t) 0 c_Net___init__) :=
  fn_ini (T := tb P w t) (a := a_Net___init__) t.F_Net___init__ sc_Net___init__ l_Net___init__ (by show 4 < 1000; decide) (fun cdv A outer s H E hr =>
    i_cons (i_fld rfl t.cl_Net t.n_Net_kinds nd_Net rfl rfl (e_cty call_list_of c_list (by rfl) t.n_list (by decide +kernel) (a_cons (e_v 1) (a_nil)))) (i_cons (i_fld rfl t.cl_Net t.n_Net_lines nd_Net rfl rfl (e_cty call_list_of c_list (by rfl) t.n_list (by decide +kernel) (a_cons (e_v 2) (a_nil)))) (i_cons (i_fld rfl t.cl_Net t.n_Net_processing nd_Net rfl rfl (e_v 3)) (i_one (i_fld rfl t.cl_Net t.n_Net_error nd_Net rfl rfl (e_v 4)))))) w_Net___init__
theorem ok__law_draw (t : Tx K mg) : FnOk P w K mg base CX0 1 t.f__law_draw t.d__law_draw ["_law_cell_here", "_law_many", "_law_bound"] (spC (tb P w t) c__law_draw) :=
  fn_ok (T := tb P w t) (a := a__law_draw) t.F__law_draw sc__law_draw l__law_draw (by decide) (fun cdv A outer s H E hr =>
    ss_cons (s_set (i := 3) sc__law_draw.nd rfl (by first | exact .inl rfl | exact .inr rfl) (e_lst (a_nil))) (ss_cons (s_if (t_cmp op_ge b_ge (e_v 0) (e_bin op_pow b_pow (e_int) (e_int)) (nomark _)) (ss_cons (s_for PassesOwn.never rfl (i_r1 (by rfl) t.n_range (a_cons (e_v 1) (a_nil))) (g_name (i := 4) sc__law_draw.nd rfl (by first | exact .inl rfl | exact .inr rfl)) (ss_cons (s_mut m_append rfl (ps_expr (pe_bm PySem.F.plainAttrs_list PySem.F.slot_list_append PySem.F.type_list_append mt_append (pv 3) (a_cons (e_bin op_mod b_mod (e_cty call_int1 c_int (by rfl) t.n_int (by decide +kernel) (a_cons (e_v 0) (a_nil))) (e_v 2)) (a_nil))))) (ss_one (s_setC (i := 0) sc__law_draw.nd rfl (by first | exact .inl rfl | exact .inr rfl) (e_bin op_fdiv b_div (e_v 0) (e_v 2)))))) (ss_one (s_retV 3))) (ss_nil)) (ss_cons (s_setC (i := 5) sc__law_draw.nd rfl (by first | exact .inl rfl | exact .inr rfl) (e_bin op_mod b_mod (e_cty call_int1 c_int (by rfl) t.n_int (by decide +kernel) (a_cons (e_v 0) (a_nil))) (e_int))) (ss_cons (s_for PassesOwn.never rfl (i_r1 (by rfl) t.n_range (a_cons (e_v 1) (a_nil))) (g_name (i := 4) sc__law_draw.nd rfl (by first | exact .inl rfl | exact .inr rfl)) (ss_cons (s_setC (i := 5) sc__law_draw.nd rfl (by first | exact .inl rfl | exact .inr rfl) (e_bin op_mod b_mod (e_cty call_int1 c_int (by rfl) t.n_int (by decide +kernel) (a_cons (e_bin op_addAll b_add (e_bin op_addAll b_add (e_bin op_mulAll b_mulAll (e_v 5) (e_int)) (e_int)) (e_v 4)) (a_nil))) (e_int))) (ss_cons (s_setC (i := 6) sc__law_draw.nd rfl (by first | exact .inl rfl | exact .inr rfl) (e_bin op_mod b_mod (e_cty call_int1 c_int (by rfl) t.n_int (by decide +kernel) (a_cons (e_bin op_addAll b_add (e_bin op_mulAll b_mulAll (e_v 5) (e_int)) (e_bin op_mulAll b_mulAll (e_int) (e_v 4))) (a_nil))) (e_int))) (ss_one (s_mut m_append rfl (ps_expr (pe_bm PySem.F.plainAttrs_list PySem.F.slot_list_append PySem.F.type_list_append mt_append (pv 3) (a_cons (e_bin op_mod b_mod (e_cty call_int1 c_int (by rfl) t.n_int (by decide +kernel) (a_cons (e_bin op_fdiv b_div (e_v 6) (e_int)) (a_nil))) (e_v 2)) (a_nil))))))))) (ss_one (s_retV 3)))))) w__law_draw
theorem ok__law_net (t : Tx K mg) : FnOk P w K mg base CX0 3 t.f__law_net t.d__law_net ["_law_cell_here", "_law_more"] (spC (tb P w t) c__law_net) :=
  fn_ok (T := tb P w t) (a := a__law_net) t.F__law_net sc__law_net l__law_net (by decide) (fun cdv A outer s H E hr =>
    ss_cons (s_setC (i := 2) sc__law_net.nd rfl (by first | exact .inl rfl | exact .inr rfl) (e_call (ok__law_draw t) (hr.mono (by decide)) (by rfl) t.m__law_draw t.F__law_draw.kp t.b__law_draw (a_cons (e_v 0) (a_cons (e_int) (a_cons (e_bin op_shl b_shl (e_int) (e_int)) (a_nil)))))) (ss_cons (s_setC (i := 3) sc__law_net.nd rfl (by first | exact .inl rfl | exact .inr rfl) (e_bin op_addAll b_add (e_int) (e_bin op_mod b_mod (e_ix rfl (e_v 2) (e_int) (fun _ _ => rfl)) (e_int)))) (ss_cons (s_setC (i := 4) sc__law_net.nd rfl (by first | exact .inl rfl | exact .inr rfl) (e_bin op_addAll b_add (e_int) (e_bin op_mod b_mod (e_ix rfl (e_v 2) (e_int) (fun _ _ => rfl)) (e_int)))) (ss_cons (s_set (i := 5) sc__law_net.nd rfl (by first | exact .inl rfl | exact .inr rfl) (e_bin op_mulAll b_mulAll (e_lst (a_cons (e_str) (a_nil))) (e_v 3))) (ss_cons (s_for PassesOwn.never rfl (i_r1 (by rfl) t.n_range (a_cons (e_v 4) (a_nil))) (g_name (i := 6) sc__law_net.nd rfl (by first | exact .inl rfl | exact .inr rfl)) (ss_one (s_mut m_insert rfl (ps_expr (pe_bm PySem.F.plainAttrs_list PySem.F.slot_list_insert PySem.F.type_list_insert mt_insertA (pv 5) (a_cons (e_bin op_mod b_mod (e_ix rfl (e_v 2) (e_bin op_addAll b_add (e_int) (e_v 6)) (fun _ _ => rfl)) (e_bin op_addAll b_add (e_cb call_lenAll c_len (by rfl) t.n_len (by decide +kernel) (a_cons (e_v 5) (a_nil))) (e_int))) (a_cons (e_str) (a_nil)))))))) (ss_cons (s_set (i := 7) sc__law_net.nd rfl (by first | exact .inl rfl | exact .inr rfl) (e_lst (a_nil))) (ss_cons (s_for PassesOwn.never rfl (i_r1 (by rfl) t.n_range (a_cons (e_cb call_lenAll c_len (by rfl) t.n_len (by decide +kernel) (a_cons (e_v 5) (a_nil))) (a_nil))) (g_name (i := 8) sc__law_net.nd rfl (by first | exact .inl rfl | exact .inr rfl)) (ss_one (s_for PassesOwn.never rfl (i_r1 (by rfl) t.n_range (a_cons (e_v 8) (a_nil))) (g_name (i := 9) sc__law_net.nd rfl (by first | exact .inl rfl | exact .inr rfl)) (ss_one (s_if (PW.pt (w_or (t_cmp (op_eqD hr.u64) b_eq (e_ix rfl (e_v 5) (e_v 8) (fun _ _ => rfl)) (e_str) (nomark _)) (w_or1 (t_cmp (op_eqD hr.u64) b_eq (e_ix rfl (e_v 5) (e_v 9) (fun _ _ => rfl)) (e_str) (nomark _))))) (ss_one (s_mut m_append rfl (ps_expr (pe_bm PySem.F.plainAttrs_list PySem.F.slot_list_append PySem.F.type_list_append mt_append (pv 7) (a_cons (e_tup (a_cons (e_v 8) (a_cons (e_v 9) (a_nil)))) (a_nil)))))) (ss_nil)))))) (ss_cons (s_setC (i := 10) sc__law_net.nd rfl (by first | exact .inl rfl | exact .inr rfl) (e_call (ok__law_draw t) (hr.mono (by decide)) (by rfl) t.m__law_draw t.F__law_draw.kp t.b__law_draw (a_cons (e_v 1) (a_cons (e_bin op_mulAll b_mulAll (e_int) (e_cb call_lenAll c_len (by rfl) t.n_len (by decide +kernel) (a_cons (e_v 7) (a_nil)))) (a_cons (e_bin op_shl b_shl (e_int) (e_int)) (a_nil)))))) (ss_cons (s_set (i := 11) sc__law_net.nd rfl (by first | exact .inl rfl | exact .inr rfl) (e_lst (a_nil))) (ss_cons (s_for PassesOwn.never rfl (i_r1 (by rfl) t.n_range (a_cons (e_cb call_lenAll c_len (by rfl) t.n_len (by decide +kernel) (a_cons (e_v 7) (a_nil))) (a_nil))) (g_name (i := 6) sc__law_net.nd rfl (by first | exact .inl rfl | exact .inr rfl)) (ss_cons (s_asgG (e_ix rfl (e_v 7) (e_v 6) (fun _ _ => rfl)) (g_tup rfl (g_cons (g_name (i := 8) sc__law_net.nd rfl (by first | exact .inl rfl | exact .inr rfl)) (g_cons (g_name (i := 9) sc__law_net.nd rfl (by first | exact .inl rfl | exact .inr rfl)) (g_nil))))) (ss_cons (s_setC (i := 12) sc__law_net.nd rfl (by first | exact .inl rfl | exact .inr rfl) (e_cmp (op_neD hr.u64) b_ne (e_ix rfl (e_v 5) (e_v 8) (fun _ _ => rfl)) (e_ix rfl (e_v 5) (e_v 9) (fun _ _ => rfl)) (nomark _))) (ss_one (s_if (PW.pt (w_or (t_cmp op_lt b_lt (e_bin op_mod b_mod (e_ix rfl (e_v 10) (e_bin op_mulAll b_mulAll (e_int) (e_v 6)) (fun _ _ => rfl)) (e_int)) (e_int) (nomark _)) (w_or1 (PW.pt (w_and (t_val (e_v 12)) (w_and1 (t_cmp (op_eqD hr.u64) b_eq (e_bin op_mod b_mod (e_ix rfl (e_v 10) (e_bin op_mulAll b_mulAll (e_int) (e_v 6)) (fun _ _ => rfl)) (e_int)) (e_int) (nomark _)))))))) (ss_one (s_if (t_cmp (op_eqD hr.u64) b_eq (e_bin op_mod b_mod (e_ix rfl (e_v 10) (e_bin op_addAll b_add (e_bin op_mulAll b_mulAll (e_int) (e_v 6)) (e_int)) (fun _ _ => rfl)) (e_int)) (e_int) (nomark _)) (ss_one (s_mut m_append rfl (ps_expr (pe_bm PySem.F.plainAttrs_list PySem.F.slot_list_append PySem.F.type_list_append mt_append (pv 11) (a_cons (e_tup (a_cons (e_v 8) (a_cons (e_v 9) (a_cons (e_bin op_mod b_mod (e_bin op_fdiv b_div (e_ix rfl (e_v 10) (e_bin op_addAll b_add (e_bin op_mulAll b_mulAll (e_int) (e_v 6)) (e_int)) (fun _ _ => rfl)) (e_int)) (e_int)) (a_nil))))) (a_nil)))))) (ss_one (s_mut m_append rfl (ps_expr (pe_bm PySem.F.plainAttrs_list PySem.F.slot_list_append PySem.F.type_list_append mt_append (pv 11) (a_cons (e_tup (a_cons (e_v 9) (a_cons (e_v 8) (a_cons (e_bin op_mod b_mod (e_bin op_fdiv b_div (e_ix rfl (e_v 10) (e_bin op_addAll b_add (e_bin op_mulAll b_mulAll (e_int) (e_v 6)) (e_int)) (fun _ _ => rfl)) (e_int)) (e_int)) (a_nil))))) (a_nil)))))))) (ss_nil)))))) (ss_cut (s_if (t_cmp (op_eqD hr.u64) b_eq (e_bin op_mod b_mod (e_ix rfl (e_v 2) (e_int) (fun _ _ => rfl)) (e_int)) (e_int) (nomark _)) (ss_one (s_for PassesOwn.never rfl (i_r1 (by rfl) t.n_range (a_cons (e_cb call_lenAll c_len (by rfl) t.n_len (by decide +kernel) (a_cons (e_v 5) (a_nil))) (a_nil))) (g_name (i := 8) sc__law_net.nd rfl (by first | exact .inl rfl | exact .inr rfl)) (ss_one (s_for PassesOwn.never rfl (i_r1 (by rfl) t.n_range (a_cons (e_v 8) (a_nil))) (g_name (i := 9) sc__law_net.nd rfl (by first | exact .inl rfl | exact .inr rfl)) (ss_one (s_if (PW.pt (w_and (t_cmp (op_eqD hr.u64) b_eq (e_ix rfl (e_v 5) (e_v 8) (fun _ _ => rfl)) (e_str) (nomark _)) (w_and (t_cmp (op_eqD hr.u64) b_eq (e_ix rfl (e_v 5) (e_v 9) (fun _ _ => rfl)) (e_str) (nomark _)) (w_and1 (t_cmp op_lt b_lt (e_cb call_lenAll c_len (by rfl) t.n_len (by decide +kernel) (a_cons (e_v 11) (a_nil))) (e_int) (nomark _)))))) (ss_one (s_mut m_append rfl (ps_expr (pe_bm PySem.F.plainAttrs_list PySem.F.slot_list_append PySem.F.type_list_append mt_append (pv 11) (a_cons (e_tup (a_cons (e_v 8) (a_cons (e_v 9) (a_cons (e_bin op_mod b_mod (e_ix rfl (e_v 2) (e_int) (fun _ _ => rfl)) (e_int)) (a_nil))))) (a_nil)))))) (ss_nil))))))) (ss_nil)) (ss_one (s_ret (e_makeK (ks := ["processing", "error"]) t.mk_Net (ok_Net___init__ t) (hr.mono (by decide)) (by rfl) t.mC_Net t.kb_Net___init__ (a_cons (e_v 5) (a_cons (e_v 11) (a_nil))) (k_cons (e_bin op_mod b_mod (e_bin op_fdiv b_div (e_ix rfl (e_v 2) (e_int) (fun _ _ => rfl)) (e_int)) (e_int)) (k_cons (e_ix rfl (e_lst (a_cons (e_int) (a_cons (e_int) (a_cons (e_int) (a_cons (e_int) (a_nil)))))) (e_bin op_mod b_mod (e_ix rfl (e_v 2) (e_int) (fun _ _ => rfl)) (e_int)) (fun _ _ => rfl)) (k_nil))))))))))))))))) w__law_net
theorem ok__law_wide (t : Tx K mg) : FnOk P w K mg base CX0 3 t.f__law_wide t.d__law_wide ["_law_cell_here", "_law_more"] (spC (tb P w t) c__law_wide) :=
  fn_ok (T := tb P w t) (a := a__law_wide) t.F__law_wide sc__law_wide l__law_wide (by decide) (fun cdv A outer s H E hr =>
    ss_cons (s_setC (i := 2) sc__law_wide.nd rfl (by first | exact .inl rfl | exact .inr rfl) (e_call (ok__law_draw t) (hr.mono (by decide)) (by rfl) t.m__law_draw t.F__law_draw.kp t.b__law_draw (a_cons (e_v 0) (a_cons (e_int) (a_cons (e_bin op_shl b_shl (e_int) (e_int)) (a_nil)))))) (ss_cons (s_setC (i := 3) sc__law_wide.nd rfl (by first | exact .inl rfl | exact .inr rfl) (e_bin op_addAll b_add (e_int) (e_bin op_mod b_mod (e_ix rfl (e_v 2) (e_int) (fun _ _ => rfl)) (e_int)))) (ss_cons (s_setC (i := 4) sc__law_wide.nd rfl (by first | exact .inl rfl | exact .inr rfl) (e_bin op_addAll b_add (e_bin op_addAll b_add (e_lst (a_cons (e_str) (a_nil))) (e_bin op_mulAll b_mulAll (e_lst (a_cons (e_str) (a_nil))) (e_v 3))) (e_lst (a_cons (e_str) (a_nil))))) (ss_cons (s_set (i := 5) sc__law_wide.nd rfl (by first | exact .inl rfl | exact .inr rfl) (e_lst (a_nil))) (ss_cons (s_for PassesOwn.never rfl (i_r1 (by rfl) t.n_range (a_cons (e_cb call_lenAll c_len (by rfl) t.n_len (by decide +kernel) (a_cons (e_v 4) (a_nil))) (a_nil))) (g_name (i := 6) sc__law_wide.nd rfl (by first | exact .inl rfl | exact .inr rfl)) (ss_one (s_for PassesOwn.never rfl (i_r1 (by rfl) t.n_range (a_cons (e_v 6) (a_nil))) (g_name (i := 7) sc__law_wide.nd rfl (by first | exact .inl rfl | exact .inr rfl)) (ss_one (s_if (PW.pt (w_or (t_cmp op_gt b_gt (e_v 7) (e_int) (nomark _)) (w_or1 (t_cmp op_lt b_lt (e_v 6) (e_bin op_sub b_sub (e_cb call_lenAll c_len (by rfl) t.n_len (by decide +kernel) (a_cons (e_v 4) (a_nil))) (e_int)) (nomark _))))) (ss_one (s_mut m_append rfl (ps_expr (pe_bm PySem.F.plainAttrs_list PySem.F.slot_list_append PySem.F.type_list_append mt_append (pv 5) (a_cons (e_tup (a_cons (e_v 6) (a_cons (e_v 7) (a_nil)))) (a_nil)))))) (ss_nil)))))) (ss_cons (s_setC (i := 8) sc__law_wide.nd rfl (by first | exact .inl rfl | exact .inr rfl) (e_call (ok__law_draw t) (hr.mono (by decide)) (by rfl) t.m__law_draw t.F__law_draw.kp t.b__law_draw (a_cons (e_v 1) (a_cons (e_cb call_lenAll c_len (by rfl) t.n_len (by decide +kernel) (a_cons (e_v 5) (a_nil))) (a_cons (e_bin op_shl b_shl (e_int) (e_int)) (a_nil)))))) (ss_cons (s_setCLcG (i := 9) (own := [("_law_k", 10)]) rfl sc__law_wide.nd rfl rfl (sw_true rfl rfl rfl (by decide +kernel)) (i_toG (i_r1 (by rfl) t.n_range (a_cons (e_cb call_lenAll c_len (by rfl) t.n_len (by decide +kernel) (a_cons (e_v 5) (a_nil))) (a_nil)))) (blkOk_by (own := [("_law_k", 10)]) (N := N__law_wide) (sc := defScope s__law_wide) (by decide +kernel)) (by decide) (fun _ _ _ _ _ => g_name (i := 10) sc__law_wide.nd rfl (by first | exact .inl rfl | exact .inr rfl)) (fun _ _ _ _ _ => ts_one (t_cmp op_lt b_lt (e_bin op_mod b_mod (e_ix rfl (e_v 8) (e_v 10) (fun _ _ => rfl)) (e_int)) (e_bin op_addAll b_add (e_int) (e_bin op_mod b_mod (e_ix rfl (e_v 2) (e_int) (fun _ _ => rfl)) (e_int))) (nomark _))) (fun _ _ _ _ _ => e_tup (a_cons (e_ix rfl (e_ix rfl (e_v 5) (e_v 10) (fun _ _ => rfl)) (e_int) (fun _ _ => rfl)) (a_cons (e_ix rfl (e_ix rfl (e_v 5) (e_v 10) (fun _ _ => rfl)) (e_int) (fun _ _ => rfl)) (a_cons (e_int) (a_nil)))))) (ss_one (s_ret (e_makeD t.mk_Net (ok_Net___init__ t) (hr.mono (by decide)) (by rfl) t.mC_Net t.bd_Net___init__ (a_cons (e_v 4) (a_cons (e_v 9) (a_nil))))))))))))) w__law_wide
theorem ok_Net_neighbours (t : Tx K mg) : FnOk P w K mg base CX0 1 t.f_Net_neighbours t.d_Net_neighbours ["self", "a"] (spC (tb P w t) c_Net_neighbours) :=
  fn_ok (T := tb P w t) (a := a_Net_neighbours) t.F_Net_neighbours sc_Net_neighbours l_Net_neighbours (by decide) (fun cdv A outer s H E hr =>
    ss_cons (s_set (i := 2) sc_Net_neighbours.nd rfl (by first | exact .inl rfl | exact .inr rfl) (e_lst (a_nil))) (ss_cons (s_for PassesOwn.never rfl (i_lst rfl (e_fld rfl t.cl_Net t.n_Net_lines nd_Net rfl (e_v 0))) (g_tup rfl (g_cons (g_name (i := 3) sc_Net_neighbours.nd rfl (by first | exact .inl rfl | exact .inr rfl)) (g_cons (g_name (i := 4) sc_Net_neighbours.nd rfl (by first | exact .inl rfl | exact .inr rfl)) (g_cons (g_name (i := 5) sc_Net_neighbours.nd rfl (by first | exact .inl rfl | exact .inr rfl)) (g_nil))))) (ss_cut (s_if (t_cmp (op_eqD hr.u64) b_eq (e_v 3) (e_v 1) (nomark _)) (ss_one (s_mut m_append rfl (ps_expr (pe_bm PySem.F.plainAttrs_list PySem.F.slot_list_append PySem.F.type_list_append mt_append (pv 2) (a_cons (e_v 4) (a_nil)))))) (ss_nil)) (ss_one (s_if (t_cmp (op_eqD hr.u64) b_eq (e_v 4) (e_v 1) (nomark _)) (ss_one (s_mut m_append rfl (ps_expr (pe_bm PySem.F.plainAttrs_list PySem.F.slot_list_append PySem.F.type_list_append mt_append (pv 2) (a_cons (e_v 3) (a_nil)))))) (ss_nil))))) (ss_one (s_ret (e_cb cr_sorted c_sorted (by rfl) t.n_sorted (by decide +kernel) (a_cons (e_v 2) (a_nil))))))) w_Net_neighbours
theorem ok__levels (t : Tx K mg) : FnOk P w K mg base CX0 2 t.f__levels t.d__levels ["net", "first", "last", "without", "cut"] (spC (tb P w t) c__levels) :=
  fn_ok (T := tb P w t) (a := a__levels) t.F__levels sc__levels l__levels (by decide) (fun cdv A outer s H E hr =>
    ss_cons (s_set (i := 5) sc__levels.nd rfl (by first | exact .inl rfl | exact .inr rfl) (e_bin op_mulAll b_mulAll (e_lst (a_cons (e_non) (a_nil))) (e_cb call_lenAll c_len (by rfl) t.n_len (by decide +kernel) (a_cons (e_fld rfl t.cl_Net t.n_Net_kinds nd_Net rfl (e_v 0)) (a_nil))))) (ss_cons (s_setIx (ps_asg (e_int) (pg_sub (pv 5) (e_v 2) set_list))) (ss_cons (s_setC (i := 6) sc__levels.nd rfl (by first | exact .inl rfl | exact .inr rfl) (e_lst (a_cons (e_v 2) (a_nil)))) (ss_cons (s_while PassesOwn.never (t_cmp op_gt b_gt (e_cb call_lenAll c_len (by rfl) t.n_len (by decide +kernel) (a_cons (e_v 6) (a_nil))) (e_int) (nomark _)) (ss_cons (s_set (i := 7) sc__levels.nd rfl (by first | exact .inl rfl | exact .inr rfl) (e_lst (a_nil))) (ss_cons (s_for PassesOwn.never rfl (i_lst rfl (e_v 6)) (g_name (i := 8) sc__levels.nd rfl (by first | exact .inl rfl | exact .inr rfl)) (ss_one (s_for PassesOwn.never rfl (i_lst rfl (e_meth t.cl_Net t.mt_Net_neighbours (ok_Net_neighbours t) (hr.mono (by decide)) t.b_Net_neighbours no_Net_neighbours (e_v 0) (a_cons (e_v 8) (a_nil)))) (g_name (i := 9) sc__levels.nd rfl (by first | exact .inl rfl | exact .inr rfl)) (ss_cons (s_if (PW.pt (w_or (t_cmp op_notN1 b_notN (e_ix rfl (e_v 5) (e_v 9) (fun _ _ => rfl)) (e_non) (nomark _)) (w_or (t_cmp (op_inD hr.u65) b_in (e_v 9) (e_v 3) (by rfl)) (w_or1 (t_cmp (op_eqD hr.u64) b_eq (e_tup (a_cons (e_cb (call_min2 rfl) c_min2 (by rfl) t.n_min (by decide +kernel) (a_cons (e_v 8) (a_cons (e_v 9) (a_nil)))) (a_cons (e_cb (call_max2 rfl) c_max2 (by rfl) t.n_max (by decide +kernel) (a_cons (e_v 8) (a_cons (e_v 9) (a_nil)))) (a_nil)))) (e_v 4) (nomark _)))))) (ss_one (s_cont)) (ss_nil)) (ss_cons (s_setIx (ps_asg (e_bin op_addAll b_add (e_ix rfl (e_v 5) (e_v 8) (fun _ _ => rfl)) (e_int)) (pg_sub (pv 5) (e_v 9) set_list))) (ss_one (s_if (t_cmp (op_eqD hr.u64) b_eq (e_ix rfl (e_fld rfl t.cl_Net t.n_Net_kinds nd_Net rfl (e_v 0)) (e_v 9) (fun _ _ => rfl)) (e_str) (nomark _)) (ss_one (s_mut m_append rfl (ps_expr (pe_bm PySem.F.plainAttrs_list PySem.F.slot_list_append PySem.F.type_list_append mt_append (pv 7) (a_cons (e_v 9) (a_nil)))))) (ss_nil)))))))) (ss_one (s_frz 7 (s_setC (i := 6) sc__levels.nd rfl (by first | exact .inl rfl | exact .inr rfl) (e_v 7))))))) (ss_one (s_retV 5)))))) w__levels
theorem ok__path_without (t : Tx K mg) : FnOk P w K mg base CX0 3 t.f__path_without t.d__path_without ["net", "first", "last", "without", "cut"] (spC (tb P w t) c__path_without) :=
  fn_ok (T := tb P w t) (a := a__path_without) t.F__path_without sc__path_without l__path_without (by decide) (fun cdv A outer s H E hr =>
    ss_cons (s_setC (i := 5) sc__path_without.nd rfl (by first | exact .inl rfl | exact .inr rfl) (e_call (ok__levels t) (hr.mono (by decide)) (by rfl) t.m__levels t.F__levels.kp t.b__levels (a_cons (e_v 0) (a_cons (e_v 1) (a_cons (e_v 2) (a_cons (e_v 3) (a_cons (e_v 4) (a_nil)))))))) (ss_cons (s_if (t_cmp op_isN1 b_isN (e_ix rfl (e_v 5) (e_v 1) (fun _ _ => rfl)) (e_non) (nomark _)) (ss_one (s_ret (e_non))) (ss_nil)) (ss_cons (s_set (i := 6) sc__path_without.nd rfl (by first | exact .inl rfl | exact .inr rfl) (e_lst (a_cons (e_v 1) (a_nil)))) (ss_cons (s_while PassesOwn.never (t_cmp (op_neD hr.u64) b_ne (e_ix rfl (e_v 6) (e_un un_neg u_neg (e_int)) (fun _ _ => rfl)) (e_v 2) (nomark _)) (ss_cons (s_setC (i := 7) sc__path_without.nd rfl (by first | exact .inl rfl | exact .inr rfl) (e_ix rfl (e_v 6) (e_un un_neg u_neg (e_int)) (fun _ _ => rfl))) (ss_one (s_for PassesOwn.never rfl (i_lst rfl (e_meth t.cl_Net t.mt_Net_neighbours (ok_Net_neighbours t) (hr.mono (by decide)) t.b_Net_neighbours no_Net_neighbours (e_v 0) (a_cons (e_v 7) (a_nil)))) (g_name (i := 8) sc__path_without.nd rfl (by first | exact .inl rfl | exact .inr rfl)) (ss_cons (s_setC (i := 9) sc__path_without.nd rfl (by first | exact .inl rfl | exact .inr rfl) (e_and (e_cmp op_notN1 b_notN (e_ix rfl (e_v 5) (e_v 8) (fun _ _ => rfl)) (e_non) (nomark _)) (e_one (e_or (e_cmp (op_eqD hr.u64) b_eq (e_v 8) (e_v 2) (nomark _)) (e_one (e_cmp (op_eqD hr.u64) b_eq (e_ix rfl (e_fld rfl t.cl_Net t.n_Net_kinds nd_Net rfl (e_v 0)) (e_v 8) (fun _ _ => rfl)) (e_str) (nomark _))))))) (ss_one (s_if (PW.pt (w_and (t_val (e_v 9)) (w_and (t_cmp (op_eqD hr.u64) b_eq (e_ix rfl (e_v 5) (e_v 8) (fun _ _ => rfl)) (e_bin op_sub b_sub (e_ix rfl (e_v 5) (e_v 7) (fun _ _ => rfl)) (e_int)) (nomark _)) (w_and1 (t_cmp (op_neD hr.u64) b_ne (e_tup (a_cons (e_cb (call_min2 rfl) c_min2 (by rfl) t.n_min (by decide +kernel) (a_cons (e_v 7) (a_cons (e_v 8) (a_nil)))) (a_cons (e_cb (call_max2 rfl) c_max2 (by rfl) t.n_max (by decide +kernel) (a_cons (e_v 7) (a_cons (e_v 8) (a_nil)))) (a_nil)))) (e_v 4) (nomark _)))))) (ss_cons (s_mut m_append rfl (ps_expr (pe_bm PySem.F.plainAttrs_list PySem.F.slot_list_append PySem.F.type_list_append mt_append (pv 6) (a_cons (e_v 8) (a_nil))))) (ss_one (s_break))) (ss_nil)))))))) (ss_one (s_retV 6)))))) w__path_without
theorem ok_shortest_path (t : Tx K mg) : FnOk P w K mg base CX0 4 t.f_shortest_path t.d_shortest_path ["net", "first", "last"] (spC (tb P w t) c_shortest_path) :=
  fn_ok (T := tb P w t) (a := a_shortest_path) t.F_shortest_path sc_shortest_path l_shortest_path (by decide) (fun cdv A outer s H E hr =>
    ss_one (s_ret (e_call (ok__path_without t) (hr.mono (by decide)) (by rfl) t.m__path_without t.F__path_without.kp t.b__path_without (a_cons (e_v 0) (a_cons (e_v 1) (a_cons (e_v 2) (a_cons (e_lst (a_nil)) (a_cons (e_non) (a_nil))))))))) w_shortest_path
theorem ok_bottleneck (t : Tx K mg) : FnOk P w K mg base CX0 5 t.f_bottleneck t.d_bottleneck ["net", "first", "last"] (spC (tb P w t) c_bottleneck) :=
  fn_ok (T := tb P w t) (a := a_bottleneck) t.F_bottleneck sc_bottleneck l_bottleneck (by decide) (fun cdv A outer s H E hr =>
    ss_cons (s_if (t_cmp op_isN1 b_isN (e_call (ok_shortest_path t) (hr.mono (by decide)) (by rfl) t.m_shortest_path t.F_shortest_path.kp t.b_shortest_path (a_cons (e_v 0) (a_cons (e_v 1) (a_cons (e_v 2) (a_nil))))) (e_non) (nomark _)) (ss_one (s_ret (e_non))) (ss_nil)) (ss_cons (s_for PassesOwn.never rfl (i_r1 (by rfl) t.n_range (a_cons (e_cb call_lenAll c_len (by rfl) t.n_len (by decide +kernel) (a_cons (e_fld rfl t.cl_Net t.n_Net_kinds nd_Net rfl (e_v 0)) (a_nil))) (a_nil))) (g_name (i := 3) sc_bottleneck.nd rfl (by first | exact .inl rfl | exact .inr rfl)) (ss_one (s_if (PW.pt (w_and (t_cmp (op_eqD hr.u64) b_eq (e_ix rfl (e_fld rfl t.cl_Net t.n_Net_kinds nd_Net rfl (e_v 0)) (e_v 3) (fun _ _ => rfl)) (e_str) (nomark _)) (w_and1 (t_cmp op_isN1 b_isN (e_call (ok__path_without t) (hr.mono (by decide)) (by rfl) t.m__path_without t.F__path_without.kp t.b__path_without (a_cons (e_v 0) (a_cons (e_v 1) (a_cons (e_v 2) (a_cons (e_lst (a_cons (e_v 3) (a_nil))) (a_cons (e_non) (a_nil))))))) (e_non) (nomark _))))) (ss_one (s_ret (e_tup (a_cons (e_str) (a_cons (e_v 3) (a_nil)))))) (ss_nil)))) (ss_cons (s_for PassesOwn.never rfl (i_lst rfl (e_cb cr_sortedL c_sortT (by rfl) t.n_sorted (by decide +kernel) (a_cons (e_lcG (own := [("a", 4), ("b", 5), ("delay", 6)]) rfl sc_bottleneck.nd (i_lstG rfl (e_fld rfl t.cl_Net t.n_Net_lines nd_Net rfl (e_v 0))) (blkOk_by (own := [("a", 4), ("b", 5), ("delay", 6)]) (N := N_bottleneck) (sc := defScope s_bottleneck) (by decide +kernel)) (by decide) (fun _ _ _ _ _ => g_tup rfl (g_cons (g_name (i := 4) sc_bottleneck.nd rfl (by first | exact .inl rfl | exact .inr rfl)) (g_cons (g_name (i := 5) sc_bottleneck.nd rfl (by first | exact .inl rfl | exact .inr rfl)) (g_cons (g_name (i := 6) sc_bottleneck.nd rfl (by first | exact .inl rfl | exact .inr rfl)) (g_nil))))) (fun _ _ _ _ _ => ts_nil) (fun _ _ _ _ _ => e_tup (a_cons (e_cb (call_min2 rfl) c_min2 (by rfl) t.n_min (by decide +kernel) (a_cons (e_v 4) (a_cons (e_v 5) (a_nil)))) (a_cons (e_cb (call_max2 rfl) c_max2 (by rfl) t.n_max (by decide +kernel) (a_cons (e_v 4) (a_cons (e_v 5) (a_nil)))) (a_nil))))) (a_nil)))) (g_tup rfl (g_cons (g_name (i := 4) sc_bottleneck.nd rfl (by first | exact .inl rfl | exact .inr rfl)) (g_cons (g_name (i := 5) sc_bottleneck.nd rfl (by first | exact .inl rfl | exact .inr rfl)) (g_nil)))) (ss_one (s_if (t_cmp op_isN1 b_isN (e_call (ok__path_without t) (hr.mono (by decide)) (by rfl) t.m__path_without t.F__path_without.kp t.b__path_without (a_cons (e_v 0) (a_cons (e_v 1) (a_cons (e_v 2) (a_cons (e_lst (a_nil)) (a_cons (e_tup (a_cons (e_v 4) (a_cons (e_v 5) (a_nil)))) (a_nil))))))) (e_non) (nomark _)) (ss_one (s_ret (e_tup (a_cons (e_str) (a_cons (e_v 4) (a_cons (e_v 5) (a_nil))))))) (ss_nil)))) (ss_one (s_ret (e_non)))))) w_bottleneck
theorem ok__arcs (t : Tx K mg) : FnOk P w K mg base CX0 1 t.f__arcs t.d__arcs ["net", "first", "last"] (spC (tb P w t) c__arcs) :=
  fn_ok (T := tb P w t) (a := a__arcs) t.F__arcs sc__arcs l__arcs (by decide) (fun cdv A outer s H E hr =>
    ss_cons (s_set (i := 3) sc__arcs.nd rfl (by first | exact .inl rfl | exact .inr rfl) (e_lst (a_nil))) (ss_cons (s_for PassesOwn.never rfl (i_r1 (by rfl) t.n_range (a_cons (e_cb call_lenAll c_len (by rfl) t.n_len (by decide +kernel) (a_cons (e_fld rfl t.cl_Net t.n_Net_kinds nd_Net rfl (e_v 0)) (a_nil))) (a_nil))) (g_name (i := 4) sc__arcs.nd rfl (by first | exact .inl rfl | exact .inr rfl)) (ss_one (s_if (t_cmp (op_eqD hr.u64) b_eq (e_ix rfl (e_fld rfl t.cl_Net t.n_Net_kinds nd_Net rfl (e_v 0)) (e_v 4) (fun _ _ => rfl)) (e_str) (nomark _)) (ss_one (s_mut m_append rfl (ps_expr (pe_bm PySem.F.plainAttrs_list PySem.F.slot_list_append PySem.F.type_list_append mt_append (pv 3) (a_cons (e_tup (a_cons (e_tup (a_cons (e_v 4) (a_cons (e_int) (a_nil)))) (a_cons (e_tup (a_cons (e_v 4) (a_cons (e_int) (a_nil)))) (a_nil)))) (a_nil)))))) (ss_nil)))) (ss_cons (s_for PassesOwn.never rfl (i_lst rfl (e_fld rfl t.cl_Net t.n_Net_lines nd_Net rfl (e_v 0))) (g_name (i := 5) sc__arcs.nd rfl (by first | exact .inl rfl | exact .inr rfl)) (ss_one (s_for PassesOwn.never rfl (i_lst rfl (e_lst (a_cons (e_tup (a_cons (e_ix rfl (e_v 5) (e_int) (fun _ _ => rfl)) (a_cons (e_ix rfl (e_v 5) (e_int) (fun _ _ => rfl)) (a_nil)))) (a_cons (e_tup (a_cons (e_ix rfl (e_v 5) (e_int) (fun _ _ => rfl)) (a_cons (e_ix rfl (e_v 5) (e_int) (fun _ _ => rfl)) (a_nil)))) (a_nil))))) (g_tup rfl (g_cons (g_name (i := 6) sc__arcs.nd rfl (by first | exact .inl rfl | exact .inr rfl)) (g_cons (g_name (i := 7) sc__arcs.nd rfl (by first | exact .inl rfl | exact .inr rfl)) (g_nil)))) (ss_cons (s_setC (i := 8) sc__arcs.nd rfl (by first | exact .inl rfl | exact .inr rfl) (e_or (e_cmp (op_eqD hr.u64) b_eq (e_v 6) (e_v 1) (nomark _)) (e_one (e_cmp (op_eqD hr.u64) b_eq (e_ix rfl (e_fld rfl t.cl_Net t.n_Net_kinds nd_Net rfl (e_v 0)) (e_v 6) (fun _ _ => rfl)) (e_str) (nomark _))))) (ss_cons (s_setC (i := 9) sc__arcs.nd rfl (by first | exact .inl rfl | exact .inr rfl) (e_or (e_cmp (op_eqD hr.u64) b_eq (e_v 7) (e_v 2) (nomark _)) (e_one (e_cmp (op_eqD hr.u64) b_eq (e_ix rfl (e_fld rfl t.cl_Net t.n_Net_kinds nd_Net rfl (e_v 0)) (e_v 7) (fun _ _ => rfl)) (e_str) (nomark _))))) (ss_one (s_if (PW.pt (w_and (t_val (e_v 8)) (w_and1 (t_val (e_v 9))))) (ss_one (s_mut m_append rfl (ps_expr (pe_bm PySem.F.plainAttrs_list PySem.F.slot_list_append PySem.F.type_list_append mt_append (pv 3) (a_cons (e_tup (a_cons (e_tup (a_cons (e_v 6) (a_cons (e_int) (a_nil)))) (a_cons (e_tup (a_cons (e_v 7) (a_cons (e_int) (a_nil)))) (a_nil)))) (a_nil)))))) (ss_nil)))))))) (ss_one (s_retV 3))))) w__arcs
theorem ok__walk (t : Tx K mg) : FnOk P w K mg base CX0 1 t.f__walk t.d__walk ["arcs", "used", "source", "sink"] (spC (tb P w t) c__walk) :=
  fn_ok (T := tb P w t) (a := a__walk) t.F__walk sc__walk l__walk (by decide) (fun cdv A outer s H E hr =>
    ss_cons (s_set (i := 4) sc__walk.nd rfl (by first | exact .inl rfl | exact .inr rfl) (e_dispT hr.u64 (e_v 2) (e_non))) (ss_cons (s_set (i := 5) sc__walk.nd rfl (by first | exact .inl rfl | exact .inr rfl) (e_lst (a_cons (e_v 2) (a_nil)))) (ss_cons (s_while PassesOwn.never (PW.pt (w_and (t_cmp op_gt b_gt (e_cb call_lenAll c_len (by rfl) t.n_len (by decide +kernel) (a_cons (e_v 5) (a_nil))) (e_int) (nomark _)) (w_and1 (t_cmp (op_notInDct hr.u1) b_inDct (e_v 3) (e_v 4) (by rfl))))) (ss_cons (s_mutS m_popAt rfl (ps_set (i := 6) sc__walk.nd rfl (by first | exact .inl rfl | exact .inr rfl) (pe_bm PySem.F.plainAttrs_list PySem.F.slot_list_pop PySem.F.type_list_pop mt_popAt (pv 5) (a_cons (e_int) (a_nil))))) (ss_one (s_for PassesOwn.never rfl (i_lst rfl (e_v 0)) (g_tup rfl (g_cons (g_name (i := 7) sc__walk.nd rfl (by first | exact .inl rfl | exact .inr rfl)) (g_cons (g_name (i := 8) sc__walk.nd rfl (by first | exact .inl rfl | exact .inr rfl)) (g_nil)))) (ss_cut (s_if (PW.pt (w_and (t_cmp (op_eqD hr.u64) b_eq (e_v 7) (e_v 6) (nomark _)) (w_and (t_cmp (op_notInN hr.u64) b_inN (e_tup (a_cons (e_v 7) (a_cons (e_v 8) (a_nil)))) (e_v 1) (by rfl)) (w_and1 (t_cmp (op_notInDct hr.u1) b_inDct (e_v 8) (e_v 4) (by rfl)))))) (ss_cons (s_dputP hr.u1 (e_pV 4) (e_v 8) (e_v 6)) (ss_one (s_mut m_append rfl (ps_expr (pe_bm PySem.F.plainAttrs_list PySem.F.slot_list_append PySem.F.type_list_append mt_append (pv 5) (a_cons (e_v 8) (a_nil))))))) (ss_nil)) (ss_one (s_if (PW.pt (w_and (t_cmp (op_eqD hr.u64) b_eq (e_v 8) (e_v 6) (nomark _)) (w_and (t_cmp (op_inN hr.u64) b_inN (e_tup (a_cons (e_v 7) (a_cons (e_v 8) (a_nil)))) (e_v 1) (by rfl)) (w_and1 (t_cmp (op_notInDct hr.u1) b_inDct (e_v 7) (e_v 4) (by rfl)))))) (ss_cons (s_dputP hr.u1 (e_pV 4) (e_v 7) (e_v 6)) (ss_one (s_mut m_append rfl (ps_expr (pe_bm PySem.F.plainAttrs_list PySem.F.slot_list_append PySem.F.type_list_append mt_append (pv 5) (a_cons (e_v 7) (a_nil))))))) (ss_nil)))))))) (ss_one (s_frz 4 (s_ret (e_if (t_cmp (op_inDct hr.u1) b_inDct (e_v 3) (e_v 4) (by rfl)) (e_v 4) (e_non)))))))) w__walk
theorem ok__add_walk (t : Tx K mg) : FnOk P w K mg base CX0 1 t.f__add_walk t.d__add_walk ["used", "before", "sink"] (spL (tb P w t) 0 c__add_walk) :=
  fn_okL (T := tb P w t) (k := 0) (a := a__add_walk) t.F__add_walk sc__add_walk l__add_walk (by decide) (fun cdv A outer s H E hr =>
    ss_cons (s_setC (i := 3) sc__add_walk.nd rfl (by first | exact .inl rfl | exact .inr rfl) (e_v 2)) (ss_one (s_while PassesOwn.never (t_cmp op_notN1 b_notN (e_dix hr.u1 (e_v 1) (e_v 3) (fun _ _ => rfl)) (e_non) (nomark _)) (ss_cons (s_setC (i := 4) sc__add_walk.nd rfl (by first | exact .inl rfl | exact .inr rfl) (e_dix hr.u1 (e_v 1) (e_v 3) (fun _ _ => rfl))) (ss_cut (s_if (t_cmp (op_inN hr.u64) b_inN (e_tup (a_cons (e_v 3) (a_cons (e_v 4) (a_nil)))) (e_v 0) (by rfl)) (ss_one (s_ndel rfl rfl hr.u64 (e_pV 0) (e_tup (a_cons (e_v 3) (a_cons (e_v 4) (a_nil)))))) (ss_one (s_nput rfl rfl hr.u64 (e_pV 0) (e_tup (a_cons (e_v 4) (a_cons (e_v 3) (a_nil)))) (e_bl)))) (ss_one (s_setC (i := 3) sc__add_walk.nd rfl (by first | exact .inl rfl | exact .inr rfl) (e_v 4)))))))) w__add_walk
theorem ok__followed (t : Tx K mg) : FnOk P w K mg base CX0 1 t.f__followed t.d__followed ["used", "source", "sink"] (spL (tb P w t) 0 c__followed) :=
  fn_okL (T := tb P w t) (k := 0) (a := a__followed) t.F__followed sc__followed l__followed (by decide) (fun cdv A outer s H E hr =>
    ss_cons (s_set (i := 3) sc__followed.nd rfl (by first | exact .inl rfl | exact .inr rfl) (e_lst (a_cons (e_ix rfl (e_v 1) (e_int) (fun _ _ => rfl)) (a_nil)))) (ss_cons (s_setC (i := 4) sc__followed.nd rfl (by first | exact .inl rfl | exact .inr rfl) (e_v 1)) (ss_cons (s_while PassesOwn.never (t_cmp (op_neD hr.u64) b_ne (e_v 4) (e_v 2) (nomark _)) (ss_cons (s_for PassesOwn.never rfl (i_lst rfl (e_cty (call_list_dN rfl) (c_listN rfl rfl) (by rfl) t.n_list (by decide +kernel) (a_cons (e_v 0) (a_nil)))) (g_tup rfl (g_cons (g_name (i := 5) sc__followed.nd rfl (by first | exact .inl rfl | exact .inr rfl)) (g_cons (g_name (i := 6) sc__followed.nd rfl (by first | exact .inl rfl | exact .inr rfl)) (g_nil)))) (ss_one (s_if (t_cmp (op_eqD hr.u64) b_eq (e_v 5) (e_v 4) (nomark _)) (ss_cons (s_ndel rfl rfl hr.u64 (e_pV 0) (e_tup (a_cons (e_v 5) (a_cons (e_v 6) (a_nil))))) (ss_cons (s_setC (i := 4) sc__followed.nd rfl (by first | exact .inl rfl | exact .inr rfl) (e_v 6)) (ss_one (s_break)))) (ss_nil)))) (ss_one (s_if (t_cmp (op_eqD hr.u64) b_eq (e_ix rfl (e_v 4) (e_int) (fun _ _ => rfl)) (e_int) (nomark _)) (ss_one (s_mut m_append rfl (ps_expr (pe_bm PySem.F.plainAttrs_list PySem.F.slot_list_append PySem.F.type_list_append mt_append (pv 3) (a_cons (e_ix rfl (e_v 4) (e_int) (fun _ _ => rfl)) (a_nil)))))) (ss_nil))))) (ss_one (s_retV 3))))) w__followed
theorem ok_separate_paths (t : Tx K mg) : FnOk P w K mg base CX0 2 t.f_separate_paths t.d_separate_paths ["net", "first", "last"] (spC (tb P w t) c_separate_paths) :=
  fn_ok (T := tb P w t) (a := a_separate_paths) t.F_separate_paths sc_separate_paths l_separate_paths (by decide) (fun cdv A outer s H E hr =>
    ss_cons (s_setC (i := 3) sc_separate_paths.nd rfl (by first | exact .inl rfl | exact .inr rfl) (e_call (ok__arcs t) (hr.mono (by decide)) (by rfl) t.m__arcs t.F__arcs.kp t.b__arcs (a_cons (e_v 0) (a_cons (e_v 1) (a_cons (e_v 2) (a_nil)))))) (ss_cons (s_setC (i := 4) sc_separate_paths.nd rfl (by first | exact .inl rfl | exact .inr rfl) (e_tup (a_cons (e_v 1) (a_cons (e_int) (a_nil))))) (ss_cons (s_setC (i := 5) sc_separate_paths.nd rfl (by first | exact .inl rfl | exact .inr rfl) (e_tup (a_cons (e_v 2) (a_cons (e_int) (a_nil))))) (ss_cons (s_set (i := 6) sc_separate_paths.nd rfl (by first | exact .inl rfl | exact .inr rfl) (e_dnewN rfl rfl)) (ss_cons (s_for PassesOwn.never rfl (i_r1 (by rfl) t.n_range (a_cons (e_int) (a_nil))) (g_name (i := 7) sc_separate_paths.nd rfl (by first | exact .inl rfl | exact .inr rfl)) (ss_cons (s_setC (i := 8) sc_separate_paths.nd rfl (by first | exact .inl rfl | exact .inr rfl) (e_call (ok__walk t) (hr.mono (by decide)) (by rfl) t.m__walk t.F__walk.kp t.b__walk (a_cons (e_v 3) (a_cons (e_v 6) (a_cons (e_v 4) (a_cons (e_v 5) (a_nil))))))) (ss_cons (s_if (t_cmp op_isN1 b_isN (e_v 8) (e_non) (nomark _)) (ss_one (s_ret (e_non))) (ss_nil)) (ss_one (s_exprX (e_callL (ok__add_walk t) (hr.mono (by decide)) (by rfl) t.m__add_walk t.F__add_walk.kp t.b__add_walk (al_here (e_pV 6) (a_cons (e_v 8) (a_cons (e_v 5) (a_nil)))))))))) (ss_cons (s_setCX (i := 9) sc_separate_paths.nd rfl (by first | exact .inl rfl | exact .inr rfl) (e_callL (ok__followed t) (hr.mono (by decide)) (by rfl) t.m__followed t.F__followed.kp t.b__followed (al_here (e_pV 6) (a_cons (e_v 4) (a_cons (e_v 5) (a_nil)))))) (ss_one (s_retX (x_tup2 (e_v 9) (e_callL (ok__followed t) (hr.mono (by decide)) (by rfl) t.m__followed t.F__followed.kp t.b__followed (al_here (e_pV 6) (a_cons (e_v 4) (a_cons (e_v 5) (a_nil)))))))))))))) w_separate_paths
theorem ok__law_open (t : Tx K mg) : FnOk P w K mg base CX0 1 t.f__law_open t.d__law_open ["_law_net_here", "_law_first", "_law_last", "_law_node", "_law_line"] (spC (tb P w t) c__law_open) :=
  fn_ok (T := tb P w t) (a := a__law_open) t.F__law_open sc__law_open l__law_open (by decide) (fun cdv A outer s H E hr =>
    ss_cons (s_setC (i := 5) sc__law_open.nd rfl (by first | exact .inl rfl | exact .inr rfl) (e_lst (a_cons (e_v 1) (a_nil)))) (ss_cons (s_for PassesOwn.never rfl (i_r1 (by rfl) t.n_range (a_cons (e_cb call_lenAll c_len (by rfl) t.n_len (by decide +kernel) (a_cons (e_fld rfl t.cl_Net t.n_Net_kinds nd_Net rfl (e_v 0)) (a_nil))) (a_nil))) (g_name (i := 6) sc__law_open.nd rfl (by first | exact .inl rfl | exact .inr rfl)) (ss_cons (s_set (i := 7) sc__law_open.nd rfl (by first | exact .inl rfl | exact .inr rfl) (e_lst (a_nil))) (ss_cons (s_for PassesOwn.never rfl (i_lst rfl (e_fld rfl t.cl_Net t.n_Net_lines nd_Net rfl (e_v 0))) (g_tup rfl (g_cons (g_name (i := 8) sc__law_open.nd rfl (by first | exact .inl rfl | exact .inr rfl)) (g_cons (g_name (i := 9) sc__law_open.nd rfl (by first | exact .inl rfl | exact .inr rfl)) (g_cons (g_name (i := 10) sc__law_open.nd rfl (by first | exact .inl rfl | exact .inr rfl)) (g_nil))))) (ss_one (s_for PassesOwn.never rfl (i_lst rfl (e_lst (a_cons (e_tup (a_cons (e_v 8) (a_cons (e_v 9) (a_nil)))) (a_cons (e_tup (a_cons (e_v 9) (a_cons (e_v 8) (a_nil)))) (a_nil))))) (g_tup rfl (g_cons (g_name (i := 11) sc__law_open.nd rfl (by first | exact .inl rfl | exact .inr rfl)) (g_cons (g_name (i := 12) sc__law_open.nd rfl (by first | exact .inl rfl | exact .inr rfl)) (g_nil)))) (ss_one (s_if (PW.pt (w_and (t_cmp (op_inD hr.u65) b_in (e_v 11) (e_v 5) (by rfl)) (w_and (t_cmp (op_notInD hr.u65) b_notIn (e_v 12) (e_v 5) (by rfl)) (w_and (t_cmp (op_notInD hr.u65) b_notIn (e_v 12) (e_v 7) (by rfl)) (w_and (t_cmp (op_neD hr.u64) b_ne (e_v 12) (e_v 3) (nomark _)) (w_and1 (t_cmp (op_neD hr.u64) b_ne (e_tup (a_cons (e_v 8) (a_cons (e_v 9) (a_nil)))) (e_v 4) (nomark _)))))))) (ss_one (s_if (PW.pt (w_or (t_cmp (op_eqD hr.u64) b_eq (e_v 11) (e_v 1) (nomark _)) (w_or1 (t_cmp (op_eqD hr.u64) b_eq (e_ix rfl (e_fld rfl t.cl_Net t.n_Net_kinds nd_Net rfl (e_v 0)) (e_v 11) (fun _ _ => rfl)) (e_str) (nomark _))))) (ss_one (s_mut m_append rfl (ps_expr (pe_bm PySem.F.plainAttrs_list PySem.F.slot_list_append PySem.F.type_list_append mt_append (pv 7) (a_cons (e_v 12) (a_nil)))))) (ss_nil))) (ss_nil)))))) (ss_one (s_setC (i := 5) sc__law_open.nd rfl (by first | exact .inl rfl | exact .inr rfl) (e_bin op_addAll b_add (e_v 5) (e_v 7))))))) (ss_one (s_ret (e_cmp (op_inD hr.u65) b_in (e_v 2) (e_v 5) (by rfl)))))) w__law_open
theorem ok__law_bottleneck (t : Tx K mg) : FnOk P w K mg base CX0 2 t.f__law_bottleneck t.d__law_bottleneck ["_law_net_here", "_law_first", "_law_last"] (spC (tb P w t) c__law_bottleneck) :=
  fn_ok (T := tb P w t) (a := a__law_bottleneck) t.F__law_bottleneck sc__law_bottleneck l__law_bottleneck (by decide) (fun cdv A outer s H E hr =>
    ss_cons (s_for PassesOwn.never rfl (i_r1 (by rfl) t.n_range (a_cons (e_cb call_lenAll c_len (by rfl) t.n_len (by decide +kernel) (a_cons (e_fld rfl t.cl_Net t.n_Net_kinds nd_Net rfl (e_v 0)) (a_nil))) (a_nil))) (g_name (i := 3) sc__law_bottleneck.nd rfl (by first | exact .inl rfl | exact .inr rfl)) (ss_one (s_if (PW.pt (w_and (t_cmp (op_eqD hr.u64) b_eq (e_ix rfl (e_fld rfl t.cl_Net t.n_Net_kinds nd_Net rfl (e_v 0)) (e_v 3) (fun _ _ => rfl)) (e_str) (nomark _)) (w_and1 (t_not (t_val (e_call (ok__law_open t) (hr.mono (by decide)) (by rfl) t.m__law_open t.F__law_open.kp t.b__law_open (a_cons (e_v 0) (a_cons (e_v 1) (a_cons (e_v 2) (a_cons (e_v 3) (a_cons (e_non) (a_nil)))))))))))) (ss_one (s_ret (e_tup (a_cons (e_str) (a_cons (e_v 3) (a_nil)))))) (ss_nil)))) (ss_cons (s_for PassesOwn.never rfl (i_lst rfl (e_cb cr_sortedL c_sortT (by rfl) t.n_sorted (by decide +kernel) (a_cons (e_lcG (own := [("_law_a", 5), ("_law_b", 6), ("_law_ticks", 7)]) rfl sc__law_bottleneck.nd (i_lstG rfl (e_fld rfl t.cl_Net t.n_Net_lines nd_Net rfl (e_v 0))) (blkOk_by (own := [("_law_a", 5), ("_law_b", 6), ("_law_ticks", 7)]) (N := N__law_bottleneck) (sc := defScope s__law_bottleneck) (by decide +kernel)) (by decide) (fun _ _ _ _ _ => g_tup rfl (g_cons (g_name (i := 5) sc__law_bottleneck.nd rfl (by first | exact .inl rfl | exact .inr rfl)) (g_cons (g_name (i := 6) sc__law_bottleneck.nd rfl (by first | exact .inl rfl | exact .inr rfl)) (g_cons (g_name (i := 7) sc__law_bottleneck.nd rfl (by first | exact .inl rfl | exact .inr rfl)) (g_nil))))) (fun _ _ _ _ _ => ts_nil) (fun _ _ _ _ _ => e_tup (a_cons (e_cb (call_min2 rfl) c_min2 (by rfl) t.n_min (by decide +kernel) (a_cons (e_v 5) (a_cons (e_v 6) (a_nil)))) (a_cons (e_cb (call_max2 rfl) c_max2 (by rfl) t.n_max (by decide +kernel) (a_cons (e_v 5) (a_cons (e_v 6) (a_nil)))) (a_nil))))) (a_nil)))) (g_name (i := 4) sc__law_bottleneck.nd rfl (by first | exact .inl rfl | exact .inr rfl)) (ss_one (s_for PassesOwn.never rfl (i_lst rfl (e_fld rfl t.cl_Net t.n_Net_lines nd_Net rfl (e_v 0))) (g_tup rfl (g_cons (g_name (i := 5) sc__law_bottleneck.nd rfl (by first | exact .inl rfl | exact .inr rfl)) (g_cons (g_name (i := 6) sc__law_bottleneck.nd rfl (by first | exact .inl rfl | exact .inr rfl)) (g_cons (g_name (i := 7) sc__law_bottleneck.nd rfl (by first | exact .inl rfl | exact .inr rfl)) (g_nil))))) (ss_one (s_if (PW.pt (w_and (t_cmp (op_eqD hr.u64) b_eq (e_tup (a_cons (e_cb (call_min2 rfl) c_min2 (by rfl) t.n_min (by decide +kernel) (a_cons (e_v 5) (a_cons (e_v 6) (a_nil)))) (a_cons (e_cb (call_max2 rfl) c_max2 (by rfl) t.n_max (by decide +kernel) (a_cons (e_v 5) (a_cons (e_v 6) (a_nil)))) (a_nil)))) (e_v 4) (nomark _)) (w_and1 (t_not (t_val (e_call (ok__law_open t) (hr.mono (by decide)) (by rfl) t.m__law_open t.F__law_open.kp t.b__law_open (a_cons (e_v 0) (a_cons (e_v 1) (a_cons (e_v 2) (a_cons (e_non) (a_cons (e_tup (a_cons (e_v 5) (a_cons (e_v 6) (a_nil)))) (a_nil)))))))))))) (ss_one (s_ret (e_tup (a_cons (e_str) (a_cons (e_ix rfl (e_v 4) (e_int) (fun _ _ => rfl)) (a_cons (e_ix rfl (e_v 4) (e_int) (fun _ _ => rfl)) (a_nil))))))) (ss_nil)))))) (ss_one (s_ret (e_non))))) w__law_bottleneck
theorem ok__law_joined (t : Tx K mg) : FnOk P w K mg base CX0 1 t.f__law_joined t.d__law_joined ["_law_net_here", "_law_a", "_law_b"] (spC (tb P w t) c__law_joined) :=
  fn_ok (T := tb P w t) (a := a__law_joined) t.F__law_joined sc__law_joined l__law_joined (by decide) (fun cdv A outer s H E hr =>
    ss_cons (s_for PassesOwn.never rfl (i_lst rfl (e_fld rfl t.cl_Net t.n_Net_lines nd_Net rfl (e_v 0))) (g_tup rfl (g_cons (g_name (i := 3) sc__law_joined.nd rfl (by first | exact .inl rfl | exact .inr rfl)) (g_cons (g_name (i := 4) sc__law_joined.nd rfl (by first | exact .inl rfl | exact .inr rfl)) (g_cons (g_name (i := 5) sc__law_joined.nd rfl (by first | exact .inl rfl | exact .inr rfl)) (g_nil))))) (ss_one (s_if (PW.pt (w_or (PW.pt (w_and (t_cmp (op_eqD hr.u64) b_eq (e_v 3) (e_v 1) (nomark _)) (w_and1 (t_cmp (op_eqD hr.u64) b_eq (e_v 4) (e_v 2) (nomark _))))) (w_or1 (PW.pt (w_and (t_cmp (op_eqD hr.u64) b_eq (e_v 3) (e_v 2) (nomark _)) (w_and1 (t_cmp (op_eqD hr.u64) b_eq (e_v 4) (e_v 1) (nomark _)))))))) (ss_one (s_retV 5)) (ss_nil)))) (ss_one (s_ret (e_non)))) w__law_joined
theorem ok__law_right (t : Tx K mg) : FnOk P w K mg base CX0 2 t.f__law_right t.d__law_right ["_law_net_here", "_law_path", "_law_first", "_law_last"] (spC (tb P w t) c__law_right) :=
  fn_ok (T := tb P w t) (a := a__law_right) t.F__law_right sc__law_right l__law_right (by decide) (fun cdv A outer s H E hr =>
    ss_cons (s_if (PW.pt (w_or (t_not (t_val (e_isi (t := "list") t.n_isinstance (by rfl) (by rfl) t.n_list (by decide +kernel) (e_v 1) rfl))) (w_or (t_cmp op_lt b_lt (e_cb call_lenAll c_len (by rfl) t.n_len (by decide +kernel) (a_cons (e_v 1) (a_nil))) (e_int) (nomark _)) (w_or (t_cmp (op_neD hr.u64) b_ne (e_ix rfl (e_v 1) (e_int) (fun _ _ => rfl)) (e_v 2) (nomark _)) (w_or1 (t_cmp (op_neD hr.u64) b_ne (e_ix rfl (e_v 1) (e_bin op_sub b_sub (e_cb call_lenAll c_len (by rfl) t.n_len (by decide +kernel) (a_cons (e_v 1) (a_nil))) (e_int)) (fun _ _ => rfl)) (e_v 3) (nomark _))))))) (ss_one (s_ret (e_bl))) (ss_nil)) (ss_cons (s_for PassesOwn.never rfl (i_r2 (by rfl) t.n_range (a_cons (e_int) (a_cons (e_cb call_lenAll c_len (by rfl) t.n_len (by decide +kernel) (a_cons (e_v 1) (a_nil))) (a_nil)))) (g_name (i := 4) sc__law_right.nd rfl (by first | exact .inl rfl | exact .inr rfl)) (ss_cons (s_if (PW.pt (w_or (t_cmp (op_inD hr.u65) b_in (e_ix rfl (e_v 1) (e_v 4) (fun _ _ => rfl)) (e_sl rfl (e_v 1) (o_none) (o_some (e_v 4))) (by rfl)) (w_or1 (t_cmp op_isN1 b_isN (e_call (ok__law_joined t) (hr.mono (by decide)) (by rfl) t.m__law_joined t.F__law_joined.kp t.b__law_joined (a_cons (e_v 0) (a_cons (e_ix rfl (e_v 1) (e_bin op_sub b_sub (e_v 4) (e_int)) (fun _ _ => rfl)) (a_cons (e_ix rfl (e_v 1) (e_v 4) (fun _ _ => rfl)) (a_nil))))) (e_non) (nomark _))))) (ss_one (s_ret (e_bl))) (ss_nil)) (ss_one (s_if (PW.pt (w_and (t_cmp op_lt b_lt (e_v 4) (e_bin op_sub b_sub (e_cb call_lenAll c_len (by rfl) t.n_len (by decide +kernel) (a_cons (e_v 1) (a_nil))) (e_int)) (nomark _)) (w_and1 (t_cmp (op_neD hr.u64) b_ne (e_ix rfl (e_fld rfl t.cl_Net t.n_Net_kinds nd_Net rfl (e_v 0)) (e_ix rfl (e_v 1) (e_v 4) (fun _ _ => rfl)) (fun _ _ => rfl)) (e_str) (nomark _))))) (ss_one (s_ret (e_bl))) (ss_nil))))) (ss_one (s_ret (e_bl))))) w__law_right
theorem ok__law_pair_holds (t : Tx K mg) : FnOk P w K mg base CX0 6 t.f__law_pair_holds t.d__law_pair_holds ["_law_net_here", "_law_first", "_law_last"] (spC (tb P w t) c__law_pair_holds) :=
  fn_ok (T := tb P w t) (a := a__law_pair_holds) t.F__law_pair_holds sc__law_pair_holds l__law_pair_holds (by decide) (fun cdv A outer s H E hr =>
    ss_cons (s_setC (i := 3) sc__law_pair_holds.nd rfl (by first | exact .inl rfl | exact .inr rfl) (e_call (ok_separate_paths t) (hr.mono (by decide)) (by rfl) t.m_separate_paths t.F_separate_paths.kp t.b_separate_paths (a_cons (e_v 0) (a_cons (e_v 1) (a_cons (e_v 2) (a_nil)))))) (ss_cons (s_setC (i := 4) sc__law_pair_holds.nd rfl (by first | exact .inl rfl | exact .inr rfl) (e_call (ok_bottleneck t) (hr.mono (by decide)) (by rfl) t.m_bottleneck t.F_bottleneck.kp t.b_bottleneck (a_cons (e_v 0) (a_cons (e_v 1) (a_cons (e_v 2) (a_nil)))))) (ss_cons (s_if (t_not (t_val (e_call (ok__law_open t) (hr.mono (by decide)) (by rfl) t.m__law_open t.F__law_open.kp t.b__law_open (a_cons (e_v 0) (a_cons (e_v 1) (a_cons (e_v 2) (a_cons (e_non) (a_cons (e_non) (a_nil))))))))) (ss_one (s_ret (e_and (e_cmp op_isN1 b_isN (e_v 3) (e_non) (nomark _)) (e_one (e_cmp op_isN1 b_isN (e_v 4) (e_non) (nomark _)))))) (ss_nil)) (ss_cons (s_setC (i := 5) sc__law_pair_holds.nd rfl (by first | exact .inl rfl | exact .inr rfl) (e_call (ok__law_bottleneck t) (hr.mono (by decide)) (by rfl) t.m__law_bottleneck t.F__law_bottleneck.kp t.b__law_bottleneck (a_cons (e_v 0) (a_cons (e_v 1) (a_cons (e_v 2) (a_nil)))))) (ss_cons (s_if (PW.pt (w_or (t_cmp (op_neD hr.u64) b_ne (e_v 4) (e_v 5) (nomark _)) (w_or1 (t_cmp (op_neD hr.u64) b_ne (e_cmp op_isN1 b_isN (e_v 3) (e_non) (nomark _)) (e_cmp op_notN1 b_notN (e_v 5) (e_non) (nomark _)) (nomark _))))) (ss_one (s_ret (e_bl))) (ss_nil)) (ss_cons (s_if (t_cmp op_isN1 b_isN (e_v 3) (e_non) (nomark _)) (ss_one (s_ret (e_bl))) (ss_nil)) (ss_cons (s_if (PW.pt (w_or (t_not (t_val (e_isi (t := "tuple") t.n_isinstance (by rfl) (by rfl) t.n_tuple (by decide +kernel) (e_v 3) rfl))) (w_or1 (t_cmp (op_neD hr.u64) b_ne (e_cb call_lenAll c_len (by rfl) t.n_len (by decide +kernel) (a_cons (e_v 3) (a_nil))) (e_int) (nomark _))))) (ss_one (s_ret (e_bl))) (ss_nil)) (ss_cons (s_if (PW.pt (w_or (t_not (t_val (e_call (ok__law_right t) (hr.mono (by decide)) (by rfl) t.m__law_right t.F__law_right.kp t.b__law_right (a_cons (e_v 0) (a_cons (e_ix rfl (e_v 3) (e_int) (fun _ _ => rfl)) (a_cons (e_v 1) (a_cons (e_v 2) (a_nil)))))))) (w_or1 (t_not (t_val (e_call (ok__law_right t) (hr.mono (by decide)) (by rfl) t.m__law_right t.F__law_right.kp t.b__law_right (a_cons (e_v 0) (a_cons (e_ix rfl (e_v 3) (e_int) (fun _ _ => rfl)) (a_cons (e_v 1) (a_cons (e_v 2) (a_nil))))))))))) (ss_one (s_ret (e_bl))) (ss_nil)) (ss_cons (s_setC (i := 6) sc__law_pair_holds.nd rfl (by first | exact .inl rfl | exact .inr rfl) (e_sl rfl (e_ix rfl (e_v 3) (e_int) (fun _ _ => rfl)) (o_some (e_int)) (o_some (e_bin op_sub b_sub (e_cb call_lenAll c_len (by rfl) t.n_len (by decide +kernel) (a_cons (e_ix rfl (e_v 3) (e_int) (fun _ _ => rfl)) (a_nil))) (e_int))))) (ss_cons (s_for PassesOwn.never rfl (i_lst rfl (e_sl rfl (e_ix rfl (e_v 3) (e_int) (fun _ _ => rfl)) (o_some (e_int)) (o_some (e_bin op_sub b_sub (e_cb call_lenAll c_len (by rfl) t.n_len (by decide +kernel) (a_cons (e_ix rfl (e_v 3) (e_int) (fun _ _ => rfl)) (a_nil))) (e_int))))) (g_name (i := 7) sc__law_pair_holds.nd rfl (by first | exact .inl rfl | exact .inr rfl)) (ss_one (s_if (t_cmp (op_inD hr.u65) b_in (e_v 7) (e_v 6) (by rfl)) (ss_one (s_ret (e_bl))) (ss_nil)))) (ss_one (s_ret (e_cmp op_gt b_gt (e_bin op_addAll b_add (e_cb call_lenAll c_len (by rfl) t.n_len (by decide +kernel) (a_cons (e_ix rfl (e_v 3) (e_int) (fun _ _ => rfl)) (a_nil))) (e_cb call_lenAll c_len (by rfl) t.n_len (by decide +kernel) (a_cons (e_ix rfl (e_v 3) (e_int) (fun _ _ => rfl)) (a_nil)))) (e_int) (nomark _)))))))))))))) w__law_pair_holds
theorem ok_law (t : Tx K mg) : FnOk P w K mg base CX0 7 t.f_law t.d_law ["_law_script"] (spC (tb P w t) c_law) :=
  fn_ok (T := tb P w t) (a := a_law) t.F_law sc_law l_law (by decide) (fun cdv A outer s H E hr =>
    ss_cons (s_setC (i := 1) sc_law.nd rfl (by first | exact .inl rfl | exact .inr rfl) (e_call (ok__law_net t) (hr.mono (by decide)) (by rfl) t.m__law_net t.F__law_net.kp t.b__law_net (a_cons (e_call (ok__law_cell t) (hr.mono (by decide)) (by rfl) t.m__law_cell t.F__law_cell.kp t.b__law_cell (a_cons (e_v 0) (a_cons (e_int) (a_nil)))) (a_cons (e_call (ok__law_cell t) (hr.mono (by decide)) (by rfl) t.m__law_cell t.F__law_cell.kp t.b__law_cell (a_cons (e_v 0) (a_cons (e_int) (a_nil)))) (a_nil))))) (ss_cons (s_setCLcG (i := 2) (own := [("_law_a", 3)]) rfl sc_law.nd rfl rfl (sw_true rfl rfl rfl (by decide +kernel)) (i_toG (i_r1 (by rfl) t.n_range (a_cons (e_cb call_lenAll c_len (by rfl) t.n_len (by decide +kernel) (a_cons (e_fld rfl t.cl_Net t.n_Net_kinds nd_Net rfl (e_v 1)) (a_nil))) (a_nil)))) (blkOk_by (own := [("_law_a", 3)]) (N := N_law) (sc := defScope s_law) (by decide +kernel)) (by decide) (fun _ _ _ _ _ => g_name (i := 3) sc_law.nd rfl (by first | exact .inl rfl | exact .inr rfl)) (fun _ _ _ _ _ => ts_one (t_cmp (op_eqD hr.u64) b_eq (e_ix rfl (e_fld rfl t.cl_Net t.n_Net_kinds nd_Net rfl (e_v 1)) (e_v 3) (fun _ _ => rfl)) (e_str) (nomark _))) (fun _ _ _ _ _ => e_v 3)) (ss_cons (s_for PassesOwn.never rfl (i_lst rfl (e_v 2)) (g_name (i := 4) sc_law.nd rfl (by first | exact .inl rfl | exact .inr rfl)) (ss_one (s_for PassesOwn.never rfl (i_lst rfl (e_v 2)) (g_name (i := 5) sc_law.nd rfl (by first | exact .inl rfl | exact .inr rfl)) (ss_one (s_if (PW.pt (w_and (t_cmp (op_neD hr.u64) b_ne (e_v 4) (e_v 5) (nomark _)) (w_and1 (t_not (t_val (e_call (ok__law_pair_holds t) (hr.mono (by decide)) (by rfl) t.m__law_pair_holds t.F__law_pair_holds.kp t.b__law_pair_holds (a_cons (e_v 1) (a_cons (e_v 4) (a_cons (e_v 5) (a_nil)))))))))) (ss_one (s_ret (e_bl))) (ss_nil)))))) (ss_cons (s_setC (i := 6) sc_law.nd rfl (by first | exact .inl rfl | exact .inr rfl) (e_call (ok__law_wide t) (hr.mono (by decide)) (by rfl) t.m__law_wide t.F__law_wide.kp t.b__law_wide (a_cons (e_call (ok__law_cell t) (hr.mono (by decide)) (by rfl) t.m__law_cell t.F__law_cell.kp t.b__law_cell (a_cons (e_v 0) (a_cons (e_int) (a_nil)))) (a_cons (e_call (ok__law_cell t) (hr.mono (by decide)) (by rfl) t.m__law_cell t.F__law_cell.kp t.b__law_cell (a_cons (e_v 0) (a_cons (e_int) (a_nil)))) (a_nil))))) (ss_one (s_ret (e_call (ok__law_pair_holds t) (hr.mono (by decide)) (by rfl) t.m__law_pair_holds t.F__law_pair_holds.kp t.b__law_pair_holds (a_cons (e_v 6) (a_cons (e_int) (a_cons (e_bin op_sub b_sub (e_cb call_lenAll c_len (by rfl) t.n_len (by decide +kernel) (a_cons (e_fld rfl t.cl_Net t.n_Net_kinds nd_Net rfl (e_v 6)) (a_nil))) (e_int)) (a_nil))))))))))) w_law
end
def spLaw (K : PySem.W.Frag) : Sp := fun vs H Q _ => ∃ (a : Addr) (ns : List Int), vs = [.ref a] ∧ SqL K H a (ns.map V.int) ∧ ns.length ≤ 63 ∧ ∀ H', Q (.bl true) H'
theorem ok_end {P : Program} {w : World} {K : PySem.W.Frag} {mg : Str → Option Value} {base : Heap} (t : Tx K mg) : FnOk P w K mg base CX0 7 t.f_law t.d_law ["_law_script"] (spLaw K) :=
  (ok_law t).imp fun vs H Q E ⟨a, ns, e, hS, hl, q⟩ => by
    subst e
    refine ⟨⟨H, H, [], .non⟩, H, [.cl (.scr ns)], fun w => w = .cl (.bl true), Same.refl _, .cons (.scr hS) .nil, ⟨ns, rfl, hl, rfl⟩, fun w hw v F' H' g r => ?_⟩
    subst hw
    cases r
    exact q H'
theorem all_mk {l : PySem.W.OpenLaw} {w : World} {K : PySem.W.Frag} {h : Heap} {mg : Str → Option Value} {fa C_Net f0 f1 f2 f3 f4 f5 f6 f7 f8 f9 f10 f11 f12 f13 f14 f15 f16 f17 f18 f19 f20 : Addr} (X : K.In h) (G : h.Ns mainGlobals mg) (hfa : mg "law" = some (.ref fa))
    (zC_Net : PySem.W.nsIn K mainGlobals "Net" = some (some (.ref C_Net))) (pg_Net : PySem.W.plainGet K C_Net Str.empty = true) (hd_Net : PySem.W.hasDictIn K C_Net = true) (po_Net : PySem.W.plainOver K C_Net = true) (sa_Net : PySem.W.findIn K (.ref C_Net) "__setattr__" = some (some (.builtin "object.__setattr__"))) (mk_Net : PySem.W.makesIn K C_Net = true) (kc_Net : PySem.W.keepIn K (.ref C_Net) = true)
    (nf_Net_kinds : PySem.W.findIn K (.ref C_Net) "kinds" = some none)
    (nf_Net_lines : PySem.W.findIn K (.ref C_Net) "lines" = some none)
    (nf_Net_processing : PySem.W.findIn K (.ref C_Net) "processing" = some none)
    (nf_Net_error : PySem.W.findIn K (.ref C_Net) "error" = some none)
    {od0 an0 : Option Addr} {sl0 : Array (Option Value)} {oc0 kV0 dc0 pm0 cd0 ct0 : Value}
    (a0 : PySem.W.nsIn K mainGlobals "_law_cell" = some (some (.ref f0))) (l0 : K.lookup f0 = some ⟨oc0, od0, .func (PySem.W.fnOf "_law_cell" "_law_cell" (defArgs s__law_cell) (defBody s__law_cell) (defScope s__law_cell) .none kV0 dc0 pm0 an0 cd0 ct0), sl0⟩) (c0 : PySem.W.codeIn K cd0 "_law_cell" = true) (k0 : PySem.W.keepIn K (.ref f0) = true)
    {od1 an1 : Option Addr} {sl1 : Array (Option Value)} {oc1 dc1 pm1 cd1 ct1 : Value}
    {D1 : Addr} {u1_0 u1_1 : Tok} (a1 : PySem.W.findIn K (.ref C_Net) "__init__" = some (some (.ref f1))) (i1 : PySem.W.isFn K (.ref f1) = true) (l1 : K.lookup f1 = some ⟨oc1, od1, .func (PySem.W.fnOf "__init__" "Net.__init__" (defArgs s_Net___init__) (defBody s_Net___init__) (defScope s_Net___init__) .none (.ref D1) dc1 pm1 an1 cd1 ct1), sl1⟩) (c1 : PySem.W.codeIn K cd1 "Net.__init__" = true) (k1 : PySem.W.keepIn K (.ref f1) = true) (w1_0 : PySem.W.nsIn K D1 "processing" = some (some (.int 0 u1_0))) (w1_1 : PySem.W.nsIn K D1 "error" = some (some (.int 0 u1_1)))
    {od2 an2 : Option Addr} {sl2 : Array (Option Value)} {oc2 kV2 dc2 pm2 cd2 ct2 : Value}
    (a2 : PySem.W.nsIn K mainGlobals "_law_draw" = some (some (.ref f2))) (l2 : K.lookup f2 = some ⟨oc2, od2, .func (PySem.W.fnOf "_law_draw" "_law_draw" (defArgs s__law_draw) (defBody s__law_draw) (defScope s__law_draw) .none kV2 dc2 pm2 an2 cd2 ct2), sl2⟩) (c2 : PySem.W.codeIn K cd2 "_law_draw" = true) (k2 : PySem.W.keepIn K (.ref f2) = true)
    {od3 an3 : Option Addr} {sl3 : Array (Option Value)} {oc3 kV3 dc3 pm3 cd3 ct3 : Value}
    (a3 : PySem.W.nsIn K mainGlobals "_law_net" = some (some (.ref f3))) (l3 : K.lookup f3 = some ⟨oc3, od3, .func (PySem.W.fnOf "_law_net" "_law_net" (defArgs s__law_net) (defBody s__law_net) (defScope s__law_net) .none kV3 dc3 pm3 an3 cd3 ct3), sl3⟩) (c3 : PySem.W.codeIn K cd3 "_law_net" = true) (k3 : PySem.W.keepIn K (.ref f3) = true)
    {od4 an4 : Option Addr} {sl4 : Array (Option Value)} {oc4 kV4 dc4 pm4 cd4 ct4 : Value}
    (a4 : PySem.W.nsIn K mainGlobals "_law_wide" = some (some (.ref f4))) (l4 : K.lookup f4 = some ⟨oc4, od4, .func (PySem.W.fnOf "_law_wide" "_law_wide" (defArgs s__law_wide) (defBody s__law_wide) (defScope s__law_wide) .none kV4 dc4 pm4 an4 cd4 ct4), sl4⟩) (c4 : PySem.W.codeIn K cd4 "_law_wide" = true) (k4 : PySem.W.keepIn K (.ref f4) = true)
    {od5 an5 : Option Addr} {sl5 : Array (Option Value)} {oc5 kV5 dc5 pm5 cd5 ct5 : Value}
    (a5 : PySem.W.findIn K (.ref C_Net) "neighbours" = some (some (.ref f5))) (i5 : PySem.W.isFn K (.ref f5) = true) (l5 : K.lookup f5 = some ⟨oc5, od5, .func (PySem.W.fnOf "neighbours" "Net.neighbours" (defArgs s_Net_neighbours) (defBody s_Net_neighbours) (defScope s_Net_neighbours) .none kV5 dc5 pm5 an5 cd5 ct5), sl5⟩) (c5 : PySem.W.codeIn K cd5 "Net.neighbours" = true) (k5 : PySem.W.keepIn K (.ref f5) = true)
    {od6 an6 : Option Addr} {sl6 : Array (Option Value)} {oc6 kV6 dc6 pm6 cd6 ct6 : Value}
    (a6 : PySem.W.nsIn K mainGlobals "_levels" = some (some (.ref f6))) (l6 : K.lookup f6 = some ⟨oc6, od6, .func (PySem.W.fnOf "_levels" "_levels" (defArgs s__levels) (defBody s__levels) (defScope s__levels) .none kV6 dc6 pm6 an6 cd6 ct6), sl6⟩) (c6 : PySem.W.codeIn K cd6 "_levels" = true) (k6 : PySem.W.keepIn K (.ref f6) = true)
    {od7 an7 : Option Addr} {sl7 : Array (Option Value)} {oc7 kV7 dc7 pm7 cd7 ct7 : Value}
    (a7 : PySem.W.nsIn K mainGlobals "_path_without" = some (some (.ref f7))) (l7 : K.lookup f7 = some ⟨oc7, od7, .func (PySem.W.fnOf "_path_without" "_path_without" (defArgs s__path_without) (defBody s__path_without) (defScope s__path_without) .none kV7 dc7 pm7 an7 cd7 ct7), sl7⟩) (c7 : PySem.W.codeIn K cd7 "_path_without" = true) (k7 : PySem.W.keepIn K (.ref f7) = true)
    {od8 an8 : Option Addr} {sl8 : Array (Option Value)} {oc8 kV8 dc8 pm8 cd8 ct8 : Value}
    (a8 : PySem.W.nsIn K mainGlobals "shortest_path" = some (some (.ref f8))) (l8 : K.lookup f8 = some ⟨oc8, od8, .func (PySem.W.fnOf "shortest_path" "shortest_path" (defArgs s_shortest_path) (defBody s_shortest_path) (defScope s_shortest_path) .none kV8 dc8 pm8 an8 cd8 ct8), sl8⟩) (c8 : PySem.W.codeIn K cd8 "shortest_path" = true) (k8 : PySem.W.keepIn K (.ref f8) = true)
    {od9 an9 : Option Addr} {sl9 : Array (Option Value)} {oc9 kV9 dc9 pm9 cd9 ct9 : Value}
    (a9 : PySem.W.nsIn K mainGlobals "bottleneck" = some (some (.ref f9))) (l9 : K.lookup f9 = some ⟨oc9, od9, .func (PySem.W.fnOf "bottleneck" "bottleneck" (defArgs s_bottleneck) (defBody s_bottleneck) (defScope s_bottleneck) .none kV9 dc9 pm9 an9 cd9 ct9), sl9⟩) (c9 : PySem.W.codeIn K cd9 "bottleneck" = true) (k9 : PySem.W.keepIn K (.ref f9) = true)
    {od10 an10 : Option Addr} {sl10 : Array (Option Value)} {oc10 kV10 dc10 pm10 cd10 ct10 : Value}
    (a10 : PySem.W.nsIn K mainGlobals "_arcs" = some (some (.ref f10))) (l10 : K.lookup f10 = some ⟨oc10, od10, .func (PySem.W.fnOf "_arcs" "_arcs" (defArgs s__arcs) (defBody s__arcs) (defScope s__arcs) .none kV10 dc10 pm10 an10 cd10 ct10), sl10⟩) (c10 : PySem.W.codeIn K cd10 "_arcs" = true) (k10 : PySem.W.keepIn K (.ref f10) = true)
    {od11 an11 : Option Addr} {sl11 : Array (Option Value)} {oc11 kV11 dc11 pm11 cd11 ct11 : Value}
    (a11 : PySem.W.nsIn K mainGlobals "_walk" = some (some (.ref f11))) (l11 : K.lookup f11 = some ⟨oc11, od11, .func (PySem.W.fnOf "_walk" "_walk" (defArgs s__walk) (defBody s__walk) (defScope s__walk) .none kV11 dc11 pm11 an11 cd11 ct11), sl11⟩) (c11 : PySem.W.codeIn K cd11 "_walk" = true) (k11 : PySem.W.keepIn K (.ref f11) = true)
    {od12 an12 : Option Addr} {sl12 : Array (Option Value)} {oc12 kV12 dc12 pm12 cd12 ct12 : Value}
    (a12 : PySem.W.nsIn K mainGlobals "_add_walk" = some (some (.ref f12))) (l12 : K.lookup f12 = some ⟨oc12, od12, .func (PySem.W.fnOf "_add_walk" "_add_walk" (defArgs s__add_walk) (defBody s__add_walk) (defScope s__add_walk) .none kV12 dc12 pm12 an12 cd12 ct12), sl12⟩) (c12 : PySem.W.codeIn K cd12 "_add_walk" = true) (k12 : PySem.W.keepIn K (.ref f12) = true)
    {od13 an13 : Option Addr} {sl13 : Array (Option Value)} {oc13 kV13 dc13 pm13 cd13 ct13 : Value}
    (a13 : PySem.W.nsIn K mainGlobals "_followed" = some (some (.ref f13))) (l13 : K.lookup f13 = some ⟨oc13, od13, .func (PySem.W.fnOf "_followed" "_followed" (defArgs s__followed) (defBody s__followed) (defScope s__followed) .none kV13 dc13 pm13 an13 cd13 ct13), sl13⟩) (c13 : PySem.W.codeIn K cd13 "_followed" = true) (k13 : PySem.W.keepIn K (.ref f13) = true)
    {od14 an14 : Option Addr} {sl14 : Array (Option Value)} {oc14 kV14 dc14 pm14 cd14 ct14 : Value}
    (a14 : PySem.W.nsIn K mainGlobals "separate_paths" = some (some (.ref f14))) (l14 : K.lookup f14 = some ⟨oc14, od14, .func (PySem.W.fnOf "separate_paths" "separate_paths" (defArgs s_separate_paths) (defBody s_separate_paths) (defScope s_separate_paths) .none kV14 dc14 pm14 an14 cd14 ct14), sl14⟩) (c14 : PySem.W.codeIn K cd14 "separate_paths" = true) (k14 : PySem.W.keepIn K (.ref f14) = true)
    {od15 an15 : Option Addr} {sl15 : Array (Option Value)} {oc15 kV15 dc15 pm15 cd15 ct15 : Value}
    (a15 : PySem.W.nsIn K mainGlobals "_law_open" = some (some (.ref f15))) (l15 : K.lookup f15 = some ⟨oc15, od15, .func (PySem.W.fnOf "_law_open" "_law_open" (defArgs s__law_open) (defBody s__law_open) (defScope s__law_open) .none kV15 dc15 pm15 an15 cd15 ct15), sl15⟩) (c15 : PySem.W.codeIn K cd15 "_law_open" = true) (k15 : PySem.W.keepIn K (.ref f15) = true)
    {od16 an16 : Option Addr} {sl16 : Array (Option Value)} {oc16 kV16 dc16 pm16 cd16 ct16 : Value}
    (a16 : PySem.W.nsIn K mainGlobals "_law_bottleneck" = some (some (.ref f16))) (l16 : K.lookup f16 = some ⟨oc16, od16, .func (PySem.W.fnOf "_law_bottleneck" "_law_bottleneck" (defArgs s__law_bottleneck) (defBody s__law_bottleneck) (defScope s__law_bottleneck) .none kV16 dc16 pm16 an16 cd16 ct16), sl16⟩) (c16 : PySem.W.codeIn K cd16 "_law_bottleneck" = true) (k16 : PySem.W.keepIn K (.ref f16) = true)
    {od17 an17 : Option Addr} {sl17 : Array (Option Value)} {oc17 kV17 dc17 pm17 cd17 ct17 : Value}
    (a17 : PySem.W.nsIn K mainGlobals "_law_joined" = some (some (.ref f17))) (l17 : K.lookup f17 = some ⟨oc17, od17, .func (PySem.W.fnOf "_law_joined" "_law_joined" (defArgs s__law_joined) (defBody s__law_joined) (defScope s__law_joined) .none kV17 dc17 pm17 an17 cd17 ct17), sl17⟩) (c17 : PySem.W.codeIn K cd17 "_law_joined" = true) (k17 : PySem.W.keepIn K (.ref f17) = true)
    {od18 an18 : Option Addr} {sl18 : Array (Option Value)} {oc18 kV18 dc18 pm18 cd18 ct18 : Value}
    (a18 : PySem.W.nsIn K mainGlobals "_law_right" = some (some (.ref f18))) (l18 : K.lookup f18 = some ⟨oc18, od18, .func (PySem.W.fnOf "_law_right" "_law_right" (defArgs s__law_right) (defBody s__law_right) (defScope s__law_right) .none kV18 dc18 pm18 an18 cd18 ct18), sl18⟩) (c18 : PySem.W.codeIn K cd18 "_law_right" = true) (k18 : PySem.W.keepIn K (.ref f18) = true)
    {od19 an19 : Option Addr} {sl19 : Array (Option Value)} {oc19 kV19 dc19 pm19 cd19 ct19 : Value}
    (a19 : PySem.W.nsIn K mainGlobals "_law_pair_holds" = some (some (.ref f19))) (l19 : K.lookup f19 = some ⟨oc19, od19, .func (PySem.W.fnOf "_law_pair_holds" "_law_pair_holds" (defArgs s__law_pair_holds) (defBody s__law_pair_holds) (defScope s__law_pair_holds) .none kV19 dc19 pm19 an19 cd19 ct19), sl19⟩) (c19 : PySem.W.codeIn K cd19 "_law_pair_holds" = true) (k19 : PySem.W.keepIn K (.ref f19) = true)
    {od20 an20 : Option Addr} {sl20 : Array (Option Value)} {oc20 kV20 dc20 pm20 cd20 ct20 : Value}
    (a20 : PySem.W.nsIn K mainGlobals "law" = some (some (.ref f20))) (l20 : K.lookup f20 = some ⟨oc20, od20, .func (PySem.W.fnOf "law" "law" (defArgs s_law) (defBody s_law) (defScope s_law) .none kV20 dc20 pm20 an20 cd20 ct20), sl20⟩) (c20 : PySem.W.codeIn K cd20 "law" = true) (k20 : PySem.W.keepIn K (.ref f20) = true)
    (n_int : PySem.W.nsIn K mainGlobals "int" = some none)
    (n_isinstance : PySem.W.nsIn K mainGlobals "isinstance" = some none)
    (n_len : PySem.W.nsIn K mainGlobals "len" = some none)
    (n_list : PySem.W.nsIn K mainGlobals "list" = some none)
    (n_max : PySem.W.nsIn K mainGlobals "max" = some none)
    (n_min : PySem.W.nsIn K mainGlobals "min" = some none)
    (n_range : PySem.W.nsIn K mainGlobals "range" = some none)
    (n_sorted : PySem.W.nsIn K mainGlobals "sorted" = some none)
    (n_tuple : PySem.W.nsIn K mainGlobals "tuple" = some none) :
    ∃ fd : FuncData, (∀ (s : Shared) (v : Value), BindsTo s fd ⟨[v], []⟩ [("_law_script", v)]) ∧ ∀ base : Heap, K.In base → base.Ns mainGlobals mg → FnOk l.prog w K mg base CX0 7 fa fd ["_law_script"] (spLaw K) := by
  have e := hfa.symm.trans (PySem.W.mg_of X G a20)
  cases e
  let t : Tx K mg := {
    C_Net := _
    cl_Net := ⟨pg_Net, hd_Net, po_Net, sa_Net⟩
    n_Net_kinds := nf_Net_kinds
    n_Net_lines := nf_Net_lines
    n_Net_processing := nf_Net_processing
    n_Net_error := nf_Net_error
    f__law_cell := f0
    d__law_cell := _
    F__law_cell := fun_mk (st := s__law_cell) l0 c0 k0
    b__law_cell := (fun_mk (st := s__law_cell) l0 c0 k0).binds (ps := ["_law_script", "_law_k"]) (fun _ _ _ _ _ _ us hl => match us, hl with | [_, _], _ => rfl)
    m__law_cell := PySem.W.mg_of X G a0
    f_Net___init__ := f1
    d_Net___init__ := _
    F_Net___init__ := fun_mk (st := s_Net___init__) l1 c1 k1
    kb_Net___init__ := kb_mk (fun_mk (st := s_Net___init__) l1 c1 k1) fun _ _ _ _ _ _ us ws h1 h2 => match us, ws, h1, h2 with | [_, _, _], [_, _], _, _ => rfl
    bd_Net___init__ := bd_mkI2 (st := s_Net___init__) (ps := ["self", "kinds", "lines", "processing", "error"]) 3 l1 c1 k1 w1_0 w1_1 rfl fun _ _ _ _ _ _ us ks h1 h2 => match us, ks, h1, h2 with | [_, _, _], [_, _], _, _ => ⟨_, _, _, _, _, _, rfl, rfl, ⟨_, _, _, _, _, _, rfl, rfl, rfl⟩⟩
    mk_Net := ⟨mk_Net, a1, i1, kc_Net⟩
    mC_Net := PySem.W.mg_of X G zC_Net
    f__law_draw := f2
    d__law_draw := _
    F__law_draw := fun_mk (st := s__law_draw) l2 c2 k2
    b__law_draw := (fun_mk (st := s__law_draw) l2 c2 k2).binds (ps := ["_law_cell_here", "_law_many", "_law_bound"]) (fun _ _ _ _ _ _ us hl => match us, hl with | [_, _, _], _ => rfl)
    m__law_draw := PySem.W.mg_of X G a2
    f__law_net := f3
    d__law_net := _
    F__law_net := fun_mk (st := s__law_net) l3 c3 k3
    b__law_net := (fun_mk (st := s__law_net) l3 c3 k3).binds (ps := ["_law_cell_here", "_law_more"]) (fun _ _ _ _ _ _ us hl => match us, hl with | [_, _], _ => rfl)
    m__law_net := PySem.W.mg_of X G a3
    f__law_wide := f4
    d__law_wide := _
    F__law_wide := fun_mk (st := s__law_wide) l4 c4 k4
    b__law_wide := (fun_mk (st := s__law_wide) l4 c4 k4).binds (ps := ["_law_cell_here", "_law_more"]) (fun _ _ _ _ _ _ us hl => match us, hl with | [_, _], _ => rfl)
    m__law_wide := PySem.W.mg_of X G a4
    f_Net_neighbours := f5
    d_Net_neighbours := _
    F_Net_neighbours := fun_mk (st := s_Net_neighbours) l5 c5 k5
    b_Net_neighbours := (fun_mk (st := s_Net_neighbours) l5 c5 k5).binds (ps := ["self", "a"]) (fun _ _ _ _ _ _ us hl => match us, hl with | [_, _], _ => rfl)
    mt_Net_neighbours := ⟨a5, i5, k5⟩
    f__levels := f6
    d__levels := _
    F__levels := fun_mk (st := s__levels) l6 c6 k6
    b__levels := (fun_mk (st := s__levels) l6 c6 k6).binds (ps := ["net", "first", "last", "without", "cut"]) (fun _ _ _ _ _ _ us hl => match us, hl with | [_, _, _, _, _], _ => rfl)
    m__levels := PySem.W.mg_of X G a6
    f__path_without := f7
    d__path_without := _
    F__path_without := fun_mk (st := s__path_without) l7 c7 k7
    b__path_without := (fun_mk (st := s__path_without) l7 c7 k7).binds (ps := ["net", "first", "last", "without", "cut"]) (fun _ _ _ _ _ _ us hl => match us, hl with | [_, _, _, _, _], _ => rfl)
    m__path_without := PySem.W.mg_of X G a7
    f_shortest_path := f8
    d_shortest_path := _
    F_shortest_path := fun_mk (st := s_shortest_path) l8 c8 k8
    b_shortest_path := (fun_mk (st := s_shortest_path) l8 c8 k8).binds (ps := ["net", "first", "last"]) (fun _ _ _ _ _ _ us hl => match us, hl with | [_, _, _], _ => rfl)
    m_shortest_path := PySem.W.mg_of X G a8
    f_bottleneck := f9
    d_bottleneck := _
    F_bottleneck := fun_mk (st := s_bottleneck) l9 c9 k9
    b_bottleneck := (fun_mk (st := s_bottleneck) l9 c9 k9).binds (ps := ["net", "first", "last"]) (fun _ _ _ _ _ _ us hl => match us, hl with | [_, _, _], _ => rfl)
    m_bottleneck := PySem.W.mg_of X G a9
    f__arcs := f10
    d__arcs := _
    F__arcs := fun_mk (st := s__arcs) l10 c10 k10
    b__arcs := (fun_mk (st := s__arcs) l10 c10 k10).binds (ps := ["net", "first", "last"]) (fun _ _ _ _ _ _ us hl => match us, hl with | [_, _, _], _ => rfl)
    m__arcs := PySem.W.mg_of X G a10
    f__walk := f11
    d__walk := _
    F__walk := fun_mk (st := s__walk) l11 c11 k11
    b__walk := (fun_mk (st := s__walk) l11 c11 k11).binds (ps := ["arcs", "used", "source", "sink"]) (fun _ _ _ _ _ _ us hl => match us, hl with | [_, _, _, _], _ => rfl)
    m__walk := PySem.W.mg_of X G a11
    f__add_walk := f12
    d__add_walk := _
    F__add_walk := fun_mk (st := s__add_walk) l12 c12 k12
    b__add_walk := (fun_mk (st := s__add_walk) l12 c12 k12).binds (ps := ["used", "before", "sink"]) (fun _ _ _ _ _ _ us hl => match us, hl with | [_, _, _], _ => rfl)
    m__add_walk := PySem.W.mg_of X G a12
    f__followed := f13
    d__followed := _
    F__followed := fun_mk (st := s__followed) l13 c13 k13
    b__followed := (fun_mk (st := s__followed) l13 c13 k13).binds (ps := ["used", "source", "sink"]) (fun _ _ _ _ _ _ us hl => match us, hl with | [_, _, _], _ => rfl)
    m__followed := PySem.W.mg_of X G a13
    f_separate_paths := f14
    d_separate_paths := _
    F_separate_paths := fun_mk (st := s_separate_paths) l14 c14 k14
    b_separate_paths := (fun_mk (st := s_separate_paths) l14 c14 k14).binds (ps := ["net", "first", "last"]) (fun _ _ _ _ _ _ us hl => match us, hl with | [_, _, _], _ => rfl)
    m_separate_paths := PySem.W.mg_of X G a14
    f__law_open := f15
    d__law_open := _
    F__law_open := fun_mk (st := s__law_open) l15 c15 k15
    b__law_open := (fun_mk (st := s__law_open) l15 c15 k15).binds (ps := ["_law_net_here", "_law_first", "_law_last", "_law_node", "_law_line"]) (fun _ _ _ _ _ _ us hl => match us, hl with | [_, _, _, _, _], _ => rfl)
    m__law_open := PySem.W.mg_of X G a15
    f__law_bottleneck := f16
    d__law_bottleneck := _
    F__law_bottleneck := fun_mk (st := s__law_bottleneck) l16 c16 k16
    b__law_bottleneck := (fun_mk (st := s__law_bottleneck) l16 c16 k16).binds (ps := ["_law_net_here", "_law_first", "_law_last"]) (fun _ _ _ _ _ _ us hl => match us, hl with | [_, _, _], _ => rfl)
    m__law_bottleneck := PySem.W.mg_of X G a16
    f__law_joined := f17
    d__law_joined := _
    F__law_joined := fun_mk (st := s__law_joined) l17 c17 k17
    b__law_joined := (fun_mk (st := s__law_joined) l17 c17 k17).binds (ps := ["_law_net_here", "_law_a", "_law_b"]) (fun _ _ _ _ _ _ us hl => match us, hl with | [_, _, _], _ => rfl)
    m__law_joined := PySem.W.mg_of X G a17
    f__law_right := f18
    d__law_right := _
    F__law_right := fun_mk (st := s__law_right) l18 c18 k18
    b__law_right := (fun_mk (st := s__law_right) l18 c18 k18).binds (ps := ["_law_net_here", "_law_path", "_law_first", "_law_last"]) (fun _ _ _ _ _ _ us hl => match us, hl with | [_, _, _, _], _ => rfl)
    m__law_right := PySem.W.mg_of X G a18
    f__law_pair_holds := f19
    d__law_pair_holds := _
    F__law_pair_holds := fun_mk (st := s__law_pair_holds) l19 c19 k19
    b__law_pair_holds := (fun_mk (st := s__law_pair_holds) l19 c19 k19).binds (ps := ["_law_net_here", "_law_first", "_law_last"]) (fun _ _ _ _ _ _ us hl => match us, hl with | [_, _, _], _ => rfl)
    m__law_pair_holds := PySem.W.mg_of X G a19
    f_law := _
    d_law := _
    F_law := fun_mk (st := s_law) l20 c20 k20
    b_law := (fun_mk (st := s_law) l20 c20 k20).binds (ps := ["_law_script"]) (fun _ _ _ _ _ _ us hl => match us, hl with | [_], _ => rfl)
    m_law := PySem.W.mg_of X G a20
    n_int := PySem.W.mg_none_of X G n_int
    n_isinstance := PySem.W.mg_none_of X G n_isinstance
    n_len := PySem.W.mg_none_of X G n_len
    n_list := PySem.W.mg_none_of X G n_list
    n_max := PySem.W.mg_none_of X G n_max
    n_min := PySem.W.mg_none_of X G n_min
    n_range := PySem.W.mg_none_of X G n_range
    n_sorted := PySem.W.mg_none_of X G n_sorted
    n_tuple := PySem.W.mg_none_of X G n_tuple }
  exact ⟨t.d_law, fun s v => .of_eq rfl, fun base _ _ => ok_end t⟩
end Vl
open PySem PySem.W PyProof.Rows
set_option maxHeartbeats 0 in
theorem PySem.Challenge.cw_metronet_k03_whole_two_ways_or_a_bottlen_holds : PySem.Challenge.rw_metronet_k03_whole_two_ways_or_a_bottlen.Holds := by
  w_on; o_law; k_head; (case hw => w_witness2)
  k_fill
  refine L2.walk_of (l := PySem.Challenge.rw_metronet_k03_whole_two_ways_or_a_bottlen) (n := 63) (k := 7) (x := "_law_script") (CX := fun _ => L2.CX0) (sp := fun w => Vl.spLaw _) rfl (by decide) rfl ⟨rfl, by decide, by decide⟩ (fun w h Y => PySem.W.kIn_of Y) ?F (fun _ _ a ns hl _ hS => ⟨a, ns, rfl, hS, hl, fun _ => rfl⟩) (fun _ _ _ _ _ h => h)
  case F =>
    intro w mg fa h KX G hmg
    refine' Vl.all_mk KX G hmg ?zC_Net ?pg_Net ?hd_Net ?po_Net ?sa_Net ?mk_Net ?kc_Net ?nf_Net_kinds ?nf_Net_lines ?nf_Net_processing ?nf_Net_error ?a0 ?l0 ?c0 ?k0 ?a1 ?i1 ?l1 ?c1 ?k1 ?w1_0 ?w1_1 ?a2 ?l2 ?c2 ?k2 ?a3 ?l3 ?c3 ?k3 ?a4 ?l4 ?c4 ?k4 ?a5 ?i5 ?l5 ?c5 ?k5 ?a6 ?l6 ?c6 ?k6 ?a7 ?l7 ?c7 ?k7 ?a8 ?l8 ?c8 ?k8 ?a9 ?l9 ?c9 ?k9 ?a10 ?l10 ?c10 ?k10 ?a11 ?l11 ?c11 ?k11 ?a12 ?l12 ?c12 ?k12 ?a13 ?l13 ?c13 ?k13 ?a14 ?l14 ?c14 ?k14 ?a15 ?l15 ?c15 ?k15 ?a16 ?l16 ?c16 ?k16 ?a17 ?l17 ?c17 ?k17 ?a18 ?l18 ?c18 ?k18 ?a19 ?l19 ?c19 ?k19 ?a20 ?l20 ?c20 ?k20 ?n_int ?n_isinstance ?n_len ?n_list ?n_max ?n_min ?n_range ?n_sorted ?n_tuple
    (case zC_Net => k_is)
    (case pg_Net => k_is)
    (case hd_Net => k_is)
    (case po_Net => k_is)
    (case sa_Net => k_is)
    (case mk_Net => k_is)
    (case kc_Net => k_is)
    (case nf_Net_kinds => k_is)
    (case nf_Net_lines => k_is)
    (case nf_Net_processing => k_is)
    (case nf_Net_error => k_is)
    (case a0 => k_is)
    (case l0 => k_is)
    (case c0 => k_is)
    (case k0 => k_is)
    (case a1 => k_is)
    (case i1 => k_is)
    (case l1 => k_is)
    (case c1 => k_is)
    (case k1 => k_is)
    (case w1_0 => k_is)
    (case w1_1 => k_is)
    (case a2 => k_is)
    (case l2 => k_is)
    (case c2 => k_is)
    (case k2 => k_is)
    (case a3 => k_is)
    (case l3 => k_is)
    (case c3 => k_is)
    (case k3 => k_is)
    (case a4 => k_is)
    (case l4 => k_is)
    (case c4 => k_is)
    (case k4 => k_is)
    (case a5 => k_is)
    (case i5 => k_is)
    (case l5 => k_is)
    (case c5 => k_is)
    (case k5 => k_is)
    (case a6 => k_is)
    (case l6 => k_is)
    (case c6 => k_is)
    (case k6 => k_is)
    (case a7 => k_is)
    (case l7 => k_is)
    (case c7 => k_is)
    (case k7 => k_is)
    (case a8 => k_is)
    (case l8 => k_is)
    (case c8 => k_is)
    (case k8 => k_is)
    (case a9 => k_is)
    (case l9 => k_is)
    (case c9 => k_is)
    (case k9 => k_is)
    (case a10 => k_is)
    (case l10 => k_is)
    (case c10 => k_is)
    (case k10 => k_is)
    (case a11 => k_is)
    (case l11 => k_is)
    (case c11 => k_is)
    (case k11 => k_is)
    (case a12 => k_is)
    (case l12 => k_is)
    (case c12 => k_is)
    (case k12 => k_is)
    (case a13 => k_is)
    (case l13 => k_is)
    (case c13 => k_is)
    (case k13 => k_is)
    (case a14 => k_is)
    (case l14 => k_is)
    (case c14 => k_is)
    (case k14 => k_is)
    (case a15 => k_is)
    (case l15 => k_is)
    (case c15 => k_is)
    (case k15 => k_is)
    (case a16 => k_is)
    (case l16 => k_is)
    (case c16 => k_is)
    (case k16 => k_is)
    (case a17 => k_is)
    (case l17 => k_is)
    (case c17 => k_is)
    (case k17 => k_is)
    (case a18 => k_is)
    (case l18 => k_is)
    (case c18 => k_is)
    (case k18 => k_is)
    (case a19 => k_is)
    (case l19 => k_is)
    (case c19 => k_is)
    (case k19 => k_is)
    (case a20 => k_is)
    (case l20 => k_is)
    (case c20 => k_is)
    (case k20 => k_is)
    (case n_int => k_is)
    (case n_isinstance => k_is)
    (case n_len => k_is)
    (case n_list => k_is)
    (case n_max => k_is)
    (case n_min => k_is)
    (case n_range => k_is)
    (case n_sorted => k_is)
    (case n_tuple => k_is)
