import PyProof.Rows.All
import Wide.All
import OpenK.AllK
import Wide.FinOn
import HandS.ForMost
import HandS.Walk
import HandS.Gcd
import HandS.Wide
import HandS.Deep
import HandS.IsInst
import HandS.Comp
import KE.KMathG
import HandS.SortKw
import KE.DatumOrd
import HandS.MakeKwOnly
import HandS.More
import HandS.OwnEq
import HandS.Codes
import PySem.Challenge.RW_metronet_k06_entries_of_plans
set_option Elab.async false
set_option linter.all false
set_option maxRecDepth 100000
set_option maxHeartbeats 4000000
/-! A layer of plain data over HandS: what a def computes is told over data (D) with no heap in sight. -/
namespace Vl
open PySem PySem.Spec PyProof.Rows L2

/-! ### data -/
inductive D where
  | non | bl (b : Bool) | int (i : Int) | str (x : Str)
  | tup (ds : List D) | lst (ds : List D) | ins (c : Nat) (ds : List D) | dct (t : Bool) (ks ds : List D)
  /-- the script: read, never written -/
  | scr (ns : List Int)

/-- the text's classes by number: where a class stands, its fields in their order -/
structure Tb where
  K : PySem.W.Frag
  cl : Nat → Addr
  fs : Nat → List Str

def keyD : Key → D
  | .inl i => .int i
  | .inr x => .str x

theorem Same.seqT {K : PySem.W.Frag} {H H' : Hp} {a : Addr} {xs : List V} (e : Same H H') (h : SqT K H a xs) : SqT K H' a xs := by
  rcases h with (h | ⟨o, h⟩) | h
  · exact .inl (.inl (e _ _ h))
  · exact .inl (.inr ⟨o, e _ _ h⟩)
  · exact .inr h

mutual
/-- v stands for d, by what the heap F holds -/
inductive Rep (T : Tb) (F : Hp) : V → D → Prop
  | non : Rep T F .non .non
  | bl (b : Bool) : Rep T F (.bl b) (.bl b)
  | int (i : Int) : Rep T F (.int i) (.int i)
  | str (x : Str) : Rep T F (.str x) (.str x)
  | tup {a : Addr} {vs : List V} {ds : List D} : F a = some (.tup vs) → Reps T F vs ds → Rep T F (.ref a) (.tup ds)
  | lst {a : Addr} {vs : List V} {ds : List D} : F a = some (.lst vs) → Reps T F vs ds → Rep T F (.ref a) (.lst ds)
  | scr {a : Addr} {ns : List Int} : SqL T.K F a (ns.map V.int) → Rep T F (.ref a) (.scr ns)
  | ins {a dx : Addr} {c : Nat} {vs : List V} {ds : List D} : F a = some (.ins (T.cl c) dx ((T.fs c).zip vs)) → (T.fs c).length = vs.length → Reps T F vs ds → Rep T F (.ref a) (.ins c ds)
  | dK {a : Addr} {kvs : List (Key × V)} {ks ds : List D} : F a = some (.dK kvs) → ks = kvs.map (fun p => keyD p.1) → Reps T F (kvs.map (·.2)) ds → Rep T F (.ref a) (.dct false ks ds)
  | dT {a : Addr} {kvs : List (List Key × V)} {ks ds : List D} : F a = some (.dT kvs) → ks = kvs.map (fun p => .tup (p.1.map keyD)) → Reps T F (kvs.map (·.2)) ds → Rep T F (.ref a) (.dct true ks ds)
inductive Reps (T : Tb) (F : Hp) : List V → List D → Prop
  | nil : Reps T F [] []
  | cons {v : V} {vs : List V} {d : D} {ds : List D} : Rep T F v d → Reps T F vs ds → Reps T F (v :: vs) (d :: ds)
end

section
variable {T : Tb} {F F' H H' : Hp}
mutual
theorem Rep.mono (e : Same F F') : ∀ {v : V} {d : D}, Rep T F v d → Rep T F' v d
  | _, _, .non => .non
  | _, _, .bl b => .bl b
  | _, _, .int i => .int i
  | _, _, .str x => .str x
  | _, _, .tup h r => .tup (e _ _ h) (Reps.mono e r)
  | _, _, .lst h r => .lst (e _ _ h) (Reps.mono e r)
  | _, _, .scr h => .scr (e.seq h)
  | _, _, .ins h l r => .ins (e _ _ h) l (Reps.mono e r)
  | _, _, .dK h l r => .dK (e _ _ h) l (Reps.mono e r)
  | _, _, .dT h l r => .dT (e _ _ h) l (Reps.mono e r)
theorem Reps.mono (e : Same F F') : ∀ {vs : List V} {ds : List D}, Reps T F vs ds → Reps T F' vs ds
  | _, _, .nil => .nil
  | _, _, .cons h r => .cons (Rep.mono e h) (Reps.mono e r)
end
theorem Reps.length : ∀ {vs : List V} {ds : List D}, Reps T F vs ds → vs.length = ds.length
  | _, _, .nil => rfl
  | _, _, .cons _ r => by simp [Reps.length r]
theorem Reps.get : ∀ {vs : List V} {ds : List D} {i : Nat} {v : V}, Reps T F vs ds → vs[i]? = some v → ∃ d, ds[i]? = some d ∧ Rep T F v d
  | _, _, _, _, .nil, h => by simp at h
  | _, _, 0, _, .cons r _, h => by simp at h; subst h; exact ⟨_, rfl, r⟩
  | _, _, i + 1, _, .cons _ r, h => by simpa using Reps.get (i := i) r (by simpa using h)
theorem Reps.getD : ∀ {vs : List V} {ds : List D} {i : Nat} {d : D}, Reps T F vs ds → ds[i]? = some d → ∃ v, vs[i]? = some v ∧ Rep T F v d
  | _, _, _, _, .nil, h => by simp at h
  | _, _, 0, _, .cons r _, h => by simp at h; subst h; exact ⟨_, rfl, r⟩
  | _, _, i + 1, _, .cons _ r, h => by simpa using Reps.getD (i := i) r (by simpa using h)
theorem Reps.append : ∀ {vs ws : List V} {ds es : List D}, Reps T F vs ds → Reps T F ws es → Reps T F (vs ++ ws) (ds ++ es)
  | _, _, _, _, .nil, s => s
  | _, _, _, _, .cons r t, s => .cons r (Reps.append t s)
theorem Reps.snoc {vs : List V} {ds : List D} {v : V} {d : D} (r : Reps T F vs ds) (h : Rep T F v d) : Reps T F (vs ++ [v]) (ds ++ [d]) := r.append (.cons h .nil)
theorem Reps.take : ∀ {vs : List V} {ds : List D} (n : Nat), Reps T F vs ds → Reps T F (vs.take n) (ds.take n)
  | _, _, 0, _ => .nil
  | _, _, n + 1, .nil => .nil
  | _, _, n + 1, .cons r t => .cons r (Reps.take n t)
theorem Reps.drop : ∀ {vs : List V} {ds : List D} (n : Nat), Reps T F vs ds → Reps T F (vs.drop n) (ds.drop n)
  | _, _, 0, r => r
  | _, _, n + 1, .nil => .nil
  | _, _, n + 1, .cons _ t => Reps.drop n t
theorem Reps.set : ∀ {vs : List V} {ds : List D} {v : V} {d : D} (n : Nat), Reps T F vs ds → Rep T F v d → Reps T F (vs.set n v) (ds.set n d)
  | _, _, _, _, _, .nil, _ => .nil
  | _, _, _, _, 0, .cons _ t, h => .cons h t
  | _, _, _, _, n + 1, .cons r t, h => .cons r (Reps.set n t h)
theorem Reps.eraseIdx : ∀ {vs : List V} {ds : List D} (n : Nat), Reps T F vs ds → Reps T F (vs.eraseIdx n) (ds.eraseIdx n)
  | _, _, _, .nil => .nil
  | _, _, 0, .cons _ t => t
  | _, _, n + 1, .cons r t => .cons r (Reps.eraseIdx n t)
theorem Reps.dropLast : ∀ {vs : List V} {ds : List D}, Reps T F vs ds → Reps T F vs.dropLast ds.dropLast
  | _, _, .nil => .nil
  | _, _, .cons r .nil => .nil
  | _, _, .cons r (.cons q t) => .cons r (Reps.dropLast (.cons q t))
theorem Reps.reverse : ∀ {vs : List V} {ds : List D}, Reps T F vs ds → Reps T F vs.reverse ds.reverse
  | _, _, .nil => .nil
  | _, _, .cons r t => by
    rw [List.reverse_cons, List.reverse_cons]
    exact (Reps.reverse t).snoc r
theorem Reps.replicate {vs : List V} {ds : List D} (r : Reps T F vs ds) : ∀ n : Nat, Reps T F (List.replicate n vs).flatten (List.replicate n ds).flatten
  | 0 => .nil
  | n + 1 => by
    rw [List.replicate_succ, List.replicate_succ, List.flatten_cons, List.flatten_cons]
    exact r.append (Reps.replicate r n)
theorem rep_int {v : V} {i : Int} (h : Rep T F v (.int i)) : v = .int i := by cases h; rfl
theorem rep_bl {v : V} {i : Bool} (h : Rep T F v (.bl i)) : v = .bl i := by cases h; rfl
theorem rep_str {v : V} {i : Str} (h : Rep T F v (.str i)) : v = .str i := by cases h; rfl
theorem rep_non {v : V} (h : Rep T F v .non) : v = .non := by cases h; rfl
theorem rep_tup {v : V} {ds : List D} (h : Rep T F v (.tup ds)) : ∃ a vs, v = .ref a ∧ F a = some (.tup vs) ∧ Reps T F vs ds := by
  cases h with
  | tup h r => exact ⟨_, _, rfl, h, r⟩
theorem rep_lst {v : V} {ds : List D} (h : Rep T F v (.lst ds)) : ∃ a vs, v = .ref a ∧ F a = some (.lst vs) ∧ Reps T F vs ds := by
  cases h with
  | lst h r => exact ⟨_, _, rfl, h, r⟩
theorem rep_ins {v : V} {c : Nat} {ds : List D} (h : Rep T F v (.ins c ds)) : ∃ a dx vs, v = .ref a ∧ F a = some (.ins (T.cl c) dx ((T.fs c).zip vs)) ∧ (T.fs c).length = vs.length ∧ Reps T F vs ds := by
  cases h with
  | ins h l r => exact ⟨_, _, _, rfl, h, l, r⟩
theorem reps_ints : ∀ {vs : List V} {ns : List Int}, Reps T F vs (ns.map D.int) → vs = ns.map V.int
  | _, [], .nil => rfl
  | _, n :: ns, .cons r t => by rw [rep_int r, reps_ints t]; rfl
theorem reps_of_ints : ∀ ns : List Int, Reps T F (ns.map V.int) (ns.map D.int)
  | [] => .nil
  | n :: ns => .cons (.int n) (reps_of_ints ns)
end

/-! ### what is owned: it may be changed -/
inductive M where
  | fl (ds : List D) | fd (t : Bool) (ks ds : List D)
def M.toD : M → D
  | .fl ds => .lst ds
  | .fd t ks ds => .dct t ks ds
def MObj (T : Tb) (F : Hp) (m : M) (o : HO) : Prop := match m with
  | .fl ds => ∃ vs, o = .lst vs ∧ Reps T F vs ds
  | .fd false ks ds => ∃ kvs : List (Key × V), o = .dK kvs ∧ ks = kvs.map (fun p => keyD p.1) ∧ Reps T F (kvs.map (·.2)) ds
  | .fd true ks ds => ∃ kvs : List (List Key × V), o = .dT kvs ∧ ks = kvs.map (fun p => .tup (p.1.map keyD)) ∧ Reps T F (kvs.map (·.2)) ds
structure Own (T : Tb) (F H : Hp) (p : Addr) (m : M) : Prop where
  fn : F p = none
  ob : ∃ o, H p = some o ∧ MObj T F m o
/-- a value that an expression hands on: clean data; a borrowed or an own object seen; a new object that nobody else has -/
inductive W where
  | cl (d : D) | bw (m : M) | ow (m : M) | fr (m : M)
def W.toD : W → D
  | .cl d => d
  | .bw m => m.toD
  | .ow m => m.toD
  | .fr m => m.toD
/-- a slot -/
inductive AV where
  | non | im (d : D) | bw (m : M) | ow (l : Bool) (m : M)

structure Gx where
  H0 : Hp
  F0 : Hp
  L : List Addr

section
variable (T : Tb)
def RepW (G : Gx) (Hs F H : Hp) (v : V) : W → Prop
  | .cl d => Rep T F v d
  | .bw m => ∃ p, v = .ref p ∧ p ∉ G.L ∧ G.H0 p ≠ none ∧ Own T F H p m
  | .ow m => ∃ p, v = .ref p ∧ Own T F H p m
  | .fr m => ∃ p, v = .ref p ∧ Hs p = none ∧ Own T F H p m
def SlotOk (G : Gx) (F H : Hp) (o : Option V) : AV → Prop
  | .non => True
  | .im d => ∃ v, o = some v ∧ Rep T F v d
  | .bw m => ∃ p, o = some (.ref p) ∧ p ∉ G.L ∧ G.H0 p ≠ none ∧ Own T F H p m
  | .ow l m => ∃ p, o = some (.ref p) ∧ (if l = true then p ∈ G.L else G.H0 p = none) ∧ Own T F H p m
def gs (σ : L2.St) (i : Nat) : Option V := σ.getD i none
def gt (δ : List AV) (i : Nat) : AV := δ.getD i .non
structure RepS (G : Gx) (F H : Hp) (σ : L2.St) (δ : List AV) : Prop where
  ex : Same F H
  fr : ∀ a o, G.H0 a = some o → a ∉ G.L → H a = some o
  th : ∀ a, G.H0 a ≠ none → H a ≠ none
  lh : ∀ a, a ∈ G.L → G.H0 a ≠ none
  f0 : Same G.F0 F
  fn : ∀ a, G.H0 a ≠ none → F a = G.F0 a
  len : δ.length = σ.length
  sl : ∀ i, SlotOk T G F H (gs σ i) (gt δ i)
  dj : ∀ i j l l' m m', gt δ i = .ow l m → gt δ j = .ow l' m' → gs σ i = gs σ j → i = j
end
/-- the heap has grown, and of it the clean part F -/
structure Go (F H F' H' : Hp) : Prop where
  h : Same H H'
  f : Same F F'
  ex : Same F' H'
  n : ∀ a, H a ≠ none → F' a = F a
section
variable {T : Tb} {G : Gx} {F F' F2 H H' H2 Hs : Hp} {σ : L2.St} {δ : List AV} {v : V} {w : W} {m : M} {p : Addr}
theorem Go.refl (e : Same F H) : Go F H F H := ⟨Same.refl _, Same.refl _, e, fun _ _ => rfl⟩
theorem Same.nn (e : Same H H') {a : Addr} (h : H a ≠ none) : H' a ≠ none := fun q => h (e.free q)
theorem Go.trans (a : Go F H F' H') (b : Go F' H' F2 H2) : Go F H F2 H2 :=
  ⟨a.h.trans b.h, a.f.trans b.f, b.ex, fun x hx => (b.n x (Same.nn a.h hx)).trans (a.n x hx)⟩
theorem MObj.mono {o : HO} (e : Same F F') : ∀ {m : M}, MObj T F m o → MObj T F' m o
  | .fl ds, ⟨vs, h, r⟩ => ⟨vs, h, r.mono e⟩
  | .fd false ks ds, ⟨kvs, h, k, r⟩ => ⟨kvs, h, k, r.mono e⟩
  | .fd true ks ds, ⟨kvs, h, k, r⟩ => ⟨kvs, h, k, r.mono e⟩
theorem Own.go (g : Go F H F' H') (h : Own T F H p m) : Own T F' H' p m := by
  obtain ⟨o, e, r⟩ := h.ob
  exact ⟨by rw [g.n p (by rw [e]; simp), h.fn], o, g.h _ _ e, r.mono g.f⟩
theorem MObj.rep {o : HO} (h : F p = some o) : ∀ {m : M}, MObj T F m o → Rep T F (.ref p) m.toD
  | .fl ds, ⟨vs, e, r⟩ => .lst (e ▸ h) r
  | .fd false ks ds, ⟨kvs, e, k, r⟩ => .dK (e ▸ h) k r
  | .fd true ks ds, ⟨kvs, e, k, r⟩ => .dT (e ▸ h) k r
/-- what is owned, seen -/
theorem Own.rep (e : Same F H) (h : Own T F H p m) : Rep T H (.ref p) m.toD := by
  obtain ⟨o, q, r⟩ := h.ob
  exact (r.mono e).rep q
theorem RepW.go (g : Go F H F' H') : ∀ {w : W}, RepW T G Hs F H v w → RepW T G Hs F' H' v w
  | .cl d, h => Rep.mono g.f h
  | .bw m, ⟨p, e, a, b, h⟩ => ⟨p, e, a, b, h.go g⟩
  | .ow m, ⟨p, e, h⟩ => ⟨p, e, h.go g⟩
  | .fr m, ⟨p, e, a, h⟩ => ⟨p, e, a, h.go g⟩
/-- seen from an earlier heap -/
theorem RepW.back (e : Same H2 Hs) : ∀ {w : W}, RepW T G Hs F H v w → RepW T G H2 F H v w
  | .cl d, h => h
  | .bw m, h => h
  | .ow m, h => h
  | .fr m, ⟨p, q, a, h⟩ => ⟨p, q, e.free a, h⟩
theorem RepW.rep (e : Same F H) : ∀ {w : W}, RepW T G Hs F H v w → Rep T H v w.toD
  | .cl d, h => Rep.mono e h
  | .bw m, ⟨p, q, _, _, h⟩ => q ▸ h.rep e
  | .ow m, ⟨p, q, h⟩ => q ▸ h.rep e
  | .fr m, ⟨p, q, _, h⟩ => q ▸ h.rep e
theorem SlotOk.go {o : Option V} (g : Go F H F' H') : ∀ {a : AV}, SlotOk T G F H o a → SlotOk T G F' H' o a
  | .non, _ => trivial
  | .im d, ⟨v, e, h⟩ => ⟨v, e, Rep.mono g.f h⟩
  | .bw m, ⟨p, e, a, b, h⟩ => ⟨p, e, a, b, h.go g⟩
  | .ow l m, ⟨p, e, a, h⟩ => ⟨p, e, a, h.go g⟩
theorem RepS.go (R : RepS T G F H σ δ) (g : Go F H F' H') : RepS T G F' H' σ δ where
  ex := g.ex
  fr := fun a o h n => g.h _ _ (R.fr a o h n)
  th := fun a h => Same.nn g.h (R.th a h)
  lh := R.lh
  f0 := R.f0.trans g.f
  fn := fun a h => (g.n a (R.th a h)).trans (R.fn a h)
  len := R.len
  sl := fun i => (R.sl i).go g
  dj := R.dj
/-- a new object is laid, clean -/
theorem Go.new {o : HO} (g : Go F H F' H') (hp : H' p = none) : Go F H (upd F' p o) (upd H' p o) := by
  have fp : F' p = none := g.ex.free hp
  have hp0 : H p = none := g.h.free hp
  refine ⟨fun b x e => ?_, fun b x e => ?_, fun b x e => ?_, fun a ha => ?_⟩
  · have q := g.h _ _ e
    rw [upd_ne (ne_of_none q hp)]; exact q
  · have q := g.f _ _ e
    rw [upd_ne (ne_of_none q fp)]; exact q
  · by_cases hb : b = p
    · subst hb; rw [upd_same] at e ⊢; exact e
    · rw [upd_ne hb] at e ⊢; exact g.ex _ _ e
  · have : a ≠ p := fun q => ha (q ▸ hp0)
    rw [upd_ne this]; exact g.n a ha
/-- a new object is laid, not clean -/
theorem Go.lay {o : HO} (g : Go F H F' H') (hp : H' p = none) : Go F H F' (upd H' p o) := by
  refine ⟨fun b x e => ?_, g.f, fun b x e => ?_, g.n⟩
  · have q := g.h _ _ e
    rw [upd_ne (ne_of_none q hp)]; exact q
  · have q := g.ex _ _ e
    rw [upd_ne (ne_of_none q hp)]; exact q
/-- what nobody else has becomes clean -/
theorem Go.freeze {o : HO} (g : Go F H F' H') (h0 : H p = none) (hf : F' p = none) (hp : H' p = some o) : Go F H (upd F' p o) H' := by
  refine ⟨g.h, fun b x e => ?_, fun b x e => ?_, fun a ha => ?_⟩
  · have q := g.f _ _ e
    rw [upd_ne (ne_of_none q hf)]; exact q
  · by_cases hb : b = p
    · subst hb; rw [upd_same] at e; rw [← e]; exact hp
    · rw [upd_ne hb] at e; exact g.ex _ _ e
  · have : a ≠ p := fun q => ha (q ▸ h0)
    rw [upd_ne this]; exact g.n a ha
theorem Same.updN {o : HO} (h : F p = none) : Same F (upd F p o) := fun b x e => by
  rw [upd_ne (ne_of_none e h)]; exact e
def argW : W → W
  | .fr m => .cl m.toD
  | w => w
theorem RepW.arg (g : Go F H F' H') : ∀ {w : W}, RepW T G H F' H' v w → ∃ F2, Go F H F2 H' ∧ Go F' H' F' H' ∧ Same F' F2 ∧ RepW T G H F2 H' v (argW w) ∧ (∀ a, H a ≠ none → F2 a = F' a)
  | .cl d, h => ⟨F', g, Go.refl g.ex, Same.refl _, h, fun _ _ => rfl⟩
  | .bw m, h => ⟨F', g, Go.refl g.ex, Same.refl _, h, fun _ _ => rfl⟩
  | .ow m, h => ⟨F', g, Go.refl g.ex, Same.refl _, h, fun _ _ => rfl⟩
  | .fr m, ⟨p, e, a, h⟩ => by
    obtain ⟨o, q, r⟩ := h.ob
    refine ⟨upd F' p o, g.freeze a h.fn q, Go.refl g.ex, Same.updN h.fn, ?_, fun b hb => upd_ne fun z => hb (z ▸ a)⟩
    subst e
    exact (r.mono (Same.updN h.fn)).rep upd_same
end
end Vl
namespace Vl
open PySem PySem.Spec PyProof.Rows L2

/-! ### readings over data -/
abbrev AE := List AV → (W → Prop) → Prop
abbrev AA := List AV → (List W → Prop) → Prop
abbrev AT := List AV → (Bool → Prop) → Prop
structure AEnds where
  nx : List AV → Prop
  rt : W → List AV → Prop
  bk : List AV → Prop := fun _ => False
  ct : List AV → Prop := fun _ => False
abbrev AS := AEnds → List AV → Prop
def RepA (T : Tb) (G : Gx) (F H : Hp) (v : V) : W → Prop
  | .cl d => Rep T F v d
  | .bw m => ∃ p, v = .ref p ∧ p ∉ G.L ∧ G.H0 p ≠ none ∧ Own T F H p m
  | .ow m => ∃ p, v = .ref p ∧ Own T F H p m
  | .fr _ => False
inductive RepAs (T : Tb) (G : Gx) (F H : Hp) : List V → List W → Prop
  | nil : RepAs T G F H [] []
  | cons {v : V} {vs : List V} {w : W} {ws : List W} : RepA T G F H v w → RepAs T G F H vs ws → RepAs T G F H (v :: vs) (w :: ws)
section
variable (T : Tb)
def rdE (a : AE) : TE := fun σ H Q => ∃ G F δ P, RepS T G F H σ δ ∧ a δ P ∧ ∀ w, P w → ∀ v F' H', Go F H F' H' → RepW T G H F' H' v w → Q v H'
def rdA (a : AA) : TA := fun σ H Q => ∃ G F δ P, RepS T G F H σ δ ∧ a δ P ∧ ∀ ws, P ws → ∀ vs F' H', Go F H F' H' → RepAs T G F' H' vs ws → Q vs H'
def rdT (a : AT) : TT := fun σ H Q => ∃ G F δ P, RepS T G F H σ δ ∧ a δ P ∧ ∀ b, P b → ∀ F' H', Go F H F' H' → Q b H'
/-- what a def hands back -/
def RepR (Hs F H : Hp) (v : V) : W → Prop
  | .cl d => Rep T F v d
  | .fr m => ∃ p, v = .ref p ∧ Hs p = none ∧ Own T F H p m
  | _ => False
structure EndsOk (G : Gx) (Fs : Hp) (E : AEnds) (D : Ends) : Prop where
  nx : ∀ δ, E.nx δ → ∀ F H σ, Same Fs F → RepS T G F H σ δ → D.nx σ H
  rt : ∀ w δ, E.rt w δ → ∀ v F H σ, Same Fs F → RepS T G F H σ δ → RepR T G.H0 F H v w → D.rt v H
  bk : ∀ δ, E.bk δ → ∀ F H σ, Same Fs F → RepS T G F H σ δ → D.bk σ H
  ct : ∀ δ, E.ct δ → ∀ F H σ, Same Fs F → RepS T G F H σ δ → D.ct σ H
def rdS (a : AS) : TS := fun D σ H => ∃ G F δ E, RepS T G F H σ δ ∧ a E δ ∧ EndsOk T G F E D
end
section
variable {T : Tb} {G : Gx} {F F' F2 H H' H2 Hs : Hp} {σ : L2.St} {δ : List AV} {v : V} {w : W} {m : M} {p : Addr}
theorem EndsOk.mono {E : AEnds} {D : Ends} (k : EndsOk T G F E D) (e : Same F F') : EndsOk T G F' E D :=
  ⟨fun δ h F H σ s => k.nx δ h F H σ (e.trans s), fun w δ h v F H σ s => k.rt w δ h v F H σ (e.trans s), fun δ h F H σ s => k.bk δ h F H σ (e.trans s), fun δ h F H σ s => k.ct δ h F H σ (e.trans s)⟩
theorem RepA.go (g : Go F H F' H') : ∀ {w : W}, RepA T G F H v w → RepA T G F' H' v w
  | .cl d, h => Rep.mono g.f h
  | .bw m, ⟨p, e, a, b, h⟩ => ⟨p, e, a, b, h.go g⟩
  | .ow m, ⟨p, e, h⟩ => ⟨p, e, h.go g⟩
  | .fr m, h => h
theorem RepA.toW : ∀ {w : W}, RepA T G F H v w → RepW T G Hs F H v w
  | .cl d, h => h
  | .bw m, h => h
  | .ow m, h => h
  | .fr m, h => h.elim
theorem RepW.toA : ∀ {w : W}, RepW T G Hs F H v (argW w) → RepA T G F H v (argW w)
  | .cl d, h => h
  | .bw m, h => h
  | .ow m, h => h
  | .fr m, h => h
theorem RepAs.go (g : Go F H F' H') : ∀ {vs : List V} {ws : List W}, RepAs T G F H vs ws → RepAs T G F' H' vs ws
  | _, _, .nil => .nil
  | _, _, .cons h r => .cons (h.go g) (RepAs.go g r)
theorem gs_some {i : Nat} (h : gs σ i = some v) : σ[i]? = some (some v) := by
  unfold gs at h
  rw [List.getD_eq_getElem?_getD] at h
  cases q : σ[i]? with
  | none => rw [q] at h; cases h
  | some o => rw [q] at h; cases h; rfl
theorem gs_set {i j : Nat} {o : Option V} (hi : i < σ.length) : gs (σ.set i o) j = if i = j then o else gs σ j := by
  unfold gs
  rw [List.getD_eq_getElem?_getD, List.getD_eq_getElem?_getD, List.getElem?_set]
  by_cases h : i = j
  · subst h; simp [hi]
  · simp [h]
theorem gt_set {i j : Nat} {o : AV} (hi : i < δ.length) : gt (δ.set i o) j = if i = j then o else gt δ j := by
  unfold gt
  rw [List.getD_eq_getElem?_getD, List.getD_eq_getElem?_getD, List.getElem?_set]
  by_cases h : i = j
  · subst h; simp [hi]
  · simp [h]
theorem gs_out {i : Nat} {o : Option V} (hi : ¬ i < σ.length) : σ.set i o = σ := by
  rw [List.set_eq_of_length_le (by omega)]
theorem gt_out {i : Nat} {o : AV} (hi : ¬ i < δ.length) : δ.set i o = δ := by
  rw [List.set_eq_of_length_le (by omega)]
/-- an AE to a test's reading and so on -/
theorem _root_.L2.PE.mono {X : Cx} {e : Expr} {t t' : TE} (h : PE X e t) (k : ∀ σ H Q, t' σ H Q → t σ H Q) : PE X e t' := ⟨fun pins s σ H Q I q => h.run pins s σ H Q I (k σ H Q q)⟩
theorem _root_.L2.PT.mono {X : Cx} {e : Expr} {t t' : TT} (h : PT X e t) (k : ∀ σ H Q, t' σ H Q → t σ H Q) : PT X e t' := ⟨fun pins s σ H Q I q => h.run pins s σ H Q I (k σ H Q q)⟩
theorem _root_.L2.PW.mono {X : Cx} {e : Expr} {t t' : TT} (h : PW X e t) (k : ∀ σ H Q, t' σ H Q → t σ H Q) : PW X e t' := ⟨fun wh pins s σ H Q I q => h.run wh pins s σ H Q I (k σ H Q q)⟩
theorem _root_.L2.PA.mono {X : Cx} {e : List Expr} {t t' : TA} (h : PA X e t) (k : ∀ σ H Q, t' σ H Q → t σ H Q) : PA X e t' := ⟨fun pos pins s σ H Q I q => h.run pos pins s σ H Q I (k σ H Q q)⟩
theorem _root_.L2.PS.mono {X : Cx} {e : Stmt} {t t' : TS} (h : PS X e t) (k : ∀ D σ H, t' D σ H → t D σ H) : PS X e t' := ⟨fun pins s σ H D I q => h.run pins s σ H D I (k D σ H q)⟩
theorem _root_.L2.PSs.mono {X : Cx} {e : List Stmt} {t t' : TS} (h : PSs X e t) (k : ∀ D σ H, t' D σ H → t D σ H) : PSs X e t' := ⟨fun pins s σ H D I q => h.run pins s σ H D I (k D σ H q)⟩
end

/-! ### expressions -/
def slotW : AV → Option W
  | .non => none
  | .im d => some (.cl d)
  | .bw m => some (.bw m)
  | .ow _ m => some (.ow m)
def aV (i : Nat) : AE := fun δ Q => match slotW (gt δ i) with
  | some w => Q w
  | none => False
def aC (d : D) : AE := fun _ Q => Q (.cl d)
/-- one operand, by a step on values -/
def aUn (f : W → (W → Prop) → Prop) (a : AE) : AE := fun δ Q => a δ fun x => f x Q
def aBin (f : W → W → (W → Prop) → Prop) (a b : AE) : AE := fun δ Q => a δ fun x => b δ fun y => f x y Q
/-- a step on two values is right for a reading by values -/
def Bin2 (T : Tb) (r : R2) (f : W → W → (W → Prop) → Prop) : Prop := ∀ (G : Gx) (F H F' H' : Hp) (x y : V) (u w : W) (P : W → Prop) (Q : VK), Go F H F' H' → RepW T G H F' H' x u → RepW T G H F' H' y w → f u w P →
  (∀ z, P z → ∀ v F2 H2, Go F H F2 H2 → RepW T G H F2 H2 v z → Q v H2) → r x y H' Q
def Un1 (T : Tb) (r : V → Hp → VK → Prop) (f : W → (W → Prop) → Prop) : Prop := ∀ (G : Gx) (F H F' H' : Hp) (x : V) (u : W) (P : W → Prop) (Q : VK), Go F H F' H' → RepW T G H F' H' x u → f u P →
  (∀ z, P z → ∀ v F2 H2, Go F H F2 H2 → RepW T G H F2 H2 v z → Q v H2) → r x H' Q
section
variable {T : Tb} {X : Cx} {a b : Expr} {x y : AE} {pos : Pos} {r : R2} {r1 : V → Hp → VK → Prop} {f : W → W → (W → Prop) → Prop} {f1 : W → (W → Prop) → Prop}
theorem rd_un (hf : Un1 T r1 f1) {σ : L2.St} {H : Hp} {Q : VK} (h : rdE T (aUn f1 x) σ H Q) : tUn r1 (rdE T x) σ H Q := by
  obtain ⟨G, F, δ, P, R, h, k⟩ := h
  refine ⟨G, F, δ, _, R, h, fun u hu v F' H' g ru => ?_⟩
  exact hf G F H F' H' v u P Q g ru hu k
theorem rd_bin (hf : Bin2 T r f) {σ : L2.St} {H : Hp} {Q : VK} (h : rdE T (aBin f x y) σ H Q) : tOp r (rdE T x) (rdE T y) σ H Q := by
  obtain ⟨G, F, δ, P, R, h, k⟩ := h
  refine ⟨G, F, δ, _, R, h, fun u hu v F' H' g ru => ?_⟩
  refine ⟨G, F', δ, _, R.go g, hu, fun w hw z F2 H2 g2 rw => ?_⟩
  exact hf G F H F2 H2 v z u w P Q (g.trans g2) (ru.go g2) (rw.back g.h) hw k
theorem e_v (i : Nat) {s : Str} (hN : X.N[i]? = some s := by rfl) (hv : Vis X.env.scope s := by first | exact Or.inl rfl | exact Or.inr (Or.inl rfl) | exact Or.inr (Or.inr rfl)) (hd : (s == ("__debug__" : Str)) = false := by decide)
    (hcd : (s == ("__classdict__" : Str)) = false := by decide) : PE X (.Name s pos) (rdE T (aV i)) := by
  refine (pe_var hN hv hd hcd).mono fun σ H Q h => ?_
  obtain ⟨G, F, δ, P, R, h, k⟩ := h
  have q := R.sl i
  unfold aV at h
  generalize gt δ i = a at h q
  cases a with
  | non => exact h.elim
  | im d =>
    obtain ⟨v, e, r⟩ := q
    exact ⟨v, gs_some e, k _ h v F H (Go.refl R.ex) r⟩
  | bw m =>
    obtain ⟨p, e, r⟩ := q
    exact ⟨.ref p, gs_some e, k _ h _ F H (Go.refl R.ex) ⟨p, rfl, r⟩⟩
  | ow l m =>
    obtain ⟨p, e, _, r⟩ := q
    exact ⟨.ref p, gs_some e, k _ h _ F H (Go.refl R.ex) ⟨p, rfl, r⟩⟩
theorem rd_c {d : D} {v : V} (hv : ∀ F, Rep T F v d) {σ : L2.St} {H : Hp} {Q : VK} (h : rdE T (aC d) σ H Q) : tC v σ H Q := by
  obtain ⟨G, F, δ, P, R, h, k⟩ := h
  exact k _ h v F H (Go.refl R.ex) (hv F)
theorem e_int {i : Int} {j} : PE X (.Constant (.int i) j pos) (rdE T (aC (.int i))) := pe_int.mono fun _ _ _ h => rd_c (fun _ => .int i) h
theorem e_bl {i : Bool} {j} : PE X (.Constant (.bool i) j pos) (rdE T (aC (.bl i))) := pe_bl.mono fun _ _ _ h => rd_c (fun _ => .bl i) h
theorem e_non {j} : PE X (.Constant .none j pos) (rdE T (aC .non)) := pe_non.mono fun _ _ _ h => rd_c (fun _ => .non) h
theorem e_str {s : Str} {j} : PE X (.Constant (.str s) j pos) (rdE T (aC (.str s))) := pe_str.mono fun _ _ _ h => rd_c (fun _ => .str s) h
theorem e_bin {op : Operator} (ho : OpR X (binaryOp op) r) (hf : Bin2 T r f) (ha : PE X a (rdE T x)) (hb : PE X b (rdE T y)) : PE X (.BinOp a op b pos) (rdE T (aBin f x y)) :=
  (pe_op ho ha hb).mono fun _ _ _ h => rd_bin hf h
theorem e_un {op : UnaryOp} (ho : UnR X (unaryOp op) r1) (hf : Un1 T r1 f1) (ha : PE X a (rdE T x)) : PE X (.UnaryOp op a pos) (rdE T (aUn f1 x)) :=
  (pe_un ho ha).mono fun _ _ _ h => rd_un hf h
theorem e_cmp {op : CmpOp} (ho : OpR X (compareOp op) r) (hf : Bin2 T r f) (ha : PE X a (rdE T x)) (hb : PE X b (rdE T y)) (hm : behindInMarks op b = false) : PE X (.Compare a [op] [b] pos) (rdE T (aBin f x y)) :=
  (pe_cmpR ho ha hb hm).mono fun _ _ _ h => rd_bin hf h
end

/-! ### steps on values: ints -/
def dI (C : Int → Int → Prop) (g : Int → Int → D) : W → W → (W → Prop) → Prop := fun x y Q => match x, y with
  | .cl (.int i), .cl (.int j) => C i j ∧ Q (.cl (g i j))
  | _, _ => False
def dI0 (g : Int → Int → D) : W → W → (W → Prop) → Prop := fun x y Q => match x, y with
  | .cl (.int i), .cl (.int j) => Q (.cl (g i j))
  | _, _ => False
theorem dI_inv {C : Int → Int → Prop} {g : Int → Int → D} {x y : W} {Q : W → Prop} (h : dI C g x y Q) : ∃ i j, x = .cl (.int i) ∧ y = .cl (.int j) ∧ C i j ∧ Q (.cl (g i j)) := by
  unfold dI at h
  split at h
  · exact ⟨_, _, rfl, rfl, h⟩
  · exact h.elim
theorem dI0_inv {g : Int → Int → D} {x y : W} {Q : W → Prop} (h : dI0 g x y Q) : ∃ i j, x = .cl (.int i) ∧ y = .cl (.int j) ∧ Q (.cl (g i j)) := by
  unfold dI0 at h
  split at h
  · exact ⟨_, _, rfl, rfl, h⟩
  · exact h.elim
section
variable {T : Tb}
theorem bin_I0 {gV : Int → Int → V} {g : Int → Int → D} (hg : ∀ i j F, Rep T F (gV i j) (g i j)) : Bin2 T (rI0 gV) (dI0 g) := by
  intro G F H F' H' x y u w P Q go rx ry h k
  obtain ⟨i, j, rfl, rfl, q⟩ := dI0_inv h
  exact ⟨i, j, rep_int rx, rep_int ry, k _ q _ _ _ go (hg i j _)⟩
theorem bin_I {C C' : Int → Int → Prop} {gV : Int → Int → V} {g : Int → Int → D} (hc : ∀ i j, C i j → C' i j) (hg : ∀ i j F, C i j → Rep T F (gV i j) (g i j)) : Bin2 T (rI C' gV) (dI C g) := by
  intro G F H F' H' x y u w P Q go rx ry h k
  obtain ⟨i, j, rfl, rfl, c, q⟩ := dI_inv h
  exact ⟨i, j, rep_int rx, rep_int ry, hc i j c, k _ q _ _ _ go (hg i j _ c)⟩
end
/-- conditions as they are easily met -/
def CM (i j : Int) : Prop := (-(2 ^ 64) < i ∧ i < 2 ^ 64) ∨ (-(2 ^ 64) < j ∧ j < 2 ^ 64)
def dSub := dI0 fun i j => .int (i - j)
def dMulI := dI CM fun i j => .int (i * j)
def dDiv := dI (fun _ j => 0 < j ∧ j < 1073741824) fun i j => .int (i / j)
def dMod := dI (fun _ j => 0 < j) fun i j => .int (i % j)
def dShl := dI (fun i j => 0 ≤ j ∧ j ≤ 1000000 ∧ i.natAbs < 2 ^ 64) fun i j => .int (i * 2 ^ j.toNat)
def dPow := dI (fun i j => 0 ≤ j ∧ j ≤ 1000000 ∧ i.natAbs < 2 ^ 64) fun i j => .int (i ^ j.toNat)
def dLt := dI0 fun i j => .bl (decide (i < j))
def dLe := dI0 fun i j => .bl (decide (i ≤ j))
def dGt := dI0 fun i j => .bl (decide (j < i))
def dGe := dI0 fun i j => .bl (decide (j ≤ i))
section
variable {T : Tb}
theorem b_sub : Bin2 T (rI0 fun i j => .int (i - j)) dSub := bin_I0 fun _ _ _ => .int _
theorem b_mul : Bin2 T (rI CMul fun i j => .int (i * j)) dMulI := bin_I (fun _ _ h => h) fun _ _ _ _ => .int _
theorem b_div : Bin2 T (rI CDiv fun i j => .int (i / j)) dDiv := bin_I (fun _ _ h => h) fun _ _ _ _ => .int _
theorem b_mod : Bin2 T (rI (fun _ j => 0 < j) fun i j => .int (i % j)) dMod := bin_I (fun _ _ h => h) fun _ _ _ _ => .int _
theorem b_shl : Bin2 T (rI CPow fun i j => .int (i * 2 ^ j.toNat)) dShl := bin_I (fun _ _ h => h) fun _ _ _ _ => .int _
theorem b_pow : Bin2 T (rI CPow fun i j => .int (i ^ j.toNat)) dPow := bin_I (fun _ _ h => h) fun _ _ _ _ => .int _
theorem b_lt : Bin2 T (rI0 fun i j => .bl (decide (i < j))) dLt := bin_I0 fun _ _ _ => .bl _
theorem b_le : Bin2 T (rI0 fun i j => .bl (decide (i ≤ j))) dLe := bin_I0 fun _ _ _ => .bl _
theorem b_gt : Bin2 T (rI0 fun i j => .bl (decide (j < i))) dGt := bin_I0 fun _ _ _ => .bl _
theorem b_ge : Bin2 T (rI0 fun i j => .bl (decide (j ≤ i))) dGe := bin_I0 fun _ _ _ => .bl _
end
end Vl
namespace Vl
open PySem PySem.Spec PyProof.Rows L2

/-! ### equality of data -/
mutual
def pd : D → PyData
  | .non => .none
  | .bl b => .bool b
  | .int i => .int i
  | .str x => .str x
  | .tup ds => .tuple (pds ds)
  | .lst ds => .list (pds ds)
  | .ins _ _ => .dict []
  | .dct _ _ _ => .dict []
  | .scr _ => .dict []
def pds : List D → List PyData
  | [] => []
  | d :: ds => pd d :: pds ds
end
def okD (d : D) : Bool := SeqAt.shaped (pd d)
def eqD (a b : D) : Bool := PyData.eqv (pd a) (pd b)
section
variable {T : Tb} {F H : Hp}
mutual
theorem Rep.dp : ∀ {d : D} {v : V}, Rep T H v d → (pd d).canLay0 = true → Dp T.K H v (pd d)
  | .non, _, .non, _ => .non
  | .bl _, _, .bl b, _ => .bl b
  | .int _, _, .int b, _ => .int b
  | .str _, _, .str b, _ => .str b
  | .tup ds, _, .tup h r, k => .tup (SqT.of h) (Reps.dp r (by simpa [pd, PyData.canLay0] using k))
  | .lst ds, _, .lst h r, k => .lst (SqL.of h) (Reps.dp r (by simpa [pd, PyData.canLay0] using k))
  | .ins _ _, _, _, k => by simp [pd, PyData.canLay0] at k
  | .dct _ _ _, _, _, k => by simp [pd, PyData.canLay0] at k
  | .scr _, _, _, k => by simp [pd, PyData.canLay0] at k
theorem Reps.dp : ∀ {ds : List D} {vs : List V}, Reps T H vs ds → PyData.canLayAll0 (pds ds) = true → DpAll T.K H vs (pds ds)
  | [], _, .nil, _ => .nil
  | d :: ds, _, .cons r t, k => by
    have k' : (pd d).canLay0 = true ∧ PyData.canLayAll0 (pds ds) = true := by simpa [pds, PyData.canLayAll0] using k
    exact .cons (Rep.dp r k'.1) (Reps.dp t k'.2)
end
theorem Rep.dpo {d : D} {v : V} (r : Rep T H v d) (k : okD d = true) : Dp T.K H v (pd d) := r.dp (SeqAt.canLay_of_shaped k)
end
def dEq : W → W → (W → Prop) → Prop := fun x y Q => okD x.toD = true ∧ okD y.toD = true ∧ Q (.cl (.bl (eqD x.toD y.toD)))
def dNe : W → W → (W → Prop) → Prop := fun x y Q => okD x.toD = true ∧ okD y.toD = true ∧ Q (.cl (.bl (!eqD x.toD y.toD)))
def dIsN : W → W → (W → Prop) → Prop := fun x y Q => match x, y with
  | .cl .non, .cl .non => Q (.cl (.bl true))
  | _, .cl .non => Q (.cl (.bl false))
  | _, _ => False
def dNotN : W → W → (W → Prop) → Prop := fun x y Q => match x, y with
  | .cl .non, .cl .non => Q (.cl (.bl false))
  | _, .cl .non => Q (.cl (.bl true))
  | _, _ => False
/-- the items of a list that can be read, of a list or tuple -/
def itemsC : W → Option (List D)
  | .cl (.lst ds) => some ds
  | .bw (.fl ds) => some ds
  | .ow (.fl ds) => some ds
  | .fr (.fl ds) => some ds
  | _ => none
def seqC : W → Option (List D)
  | .cl (.lst ds) => some ds
  | .cl (.tup ds) => some ds
  | .cl (.scr ns) => some (ns.map .int)
  | .bw (.fl ds) => some ds
  | .ow (.fl ds) => some ds
  | .fr (.fl ds) => some ds
  | _ => none
/-- lists alone, the script too -/
def lstC : W → Option (List D)
  | .cl (.tup _) => none
  | w => seqC w
section
variable {T : Tb} {G : Gx} {F H Hs : Hp} {v : V} {w : W} {ds : List D} {p : Addr}
theorem Own.fl (h : Own T F H p (.fl ds)) : ∃ vs, H p = some (.lst vs) ∧ Reps T F vs ds := by
  obtain ⟨_, e, vs, rfl, r⟩ := h.ob
  exact ⟨vs, e, r⟩
theorem RepW.items (e : Same F H) (h : RepW T G Hs F H v w) (k : itemsC w = some ds) : ∃ p vs, v = .ref p ∧ H p = some (.lst vs) ∧ Reps T F vs ds := by
  unfold itemsC at k
  split at k
  · cases k
    cases h with
    | lst q r => exact ⟨_, _, rfl, e _ _ q, r⟩
  · cases k
    obtain ⟨p, rfl, _, _, h⟩ := h
    obtain ⟨vs, q, r⟩ := h.fl
    exact ⟨p, vs, rfl, q, r⟩
  · cases k
    obtain ⟨p, rfl, h⟩ := h
    obtain ⟨vs, q, r⟩ := h.fl
    exact ⟨p, vs, rfl, q, r⟩
  · cases k
    obtain ⟨p, rfl, _, h⟩ := h
    obtain ⟨vs, q, r⟩ := h.fl
    exact ⟨p, vs, rfl, q, r⟩
  · cases k
theorem RepW.seq (e : Same F H) (h : RepW T G Hs F H v w) (k : seqC w = some ds) : ∃ p vs, v = .ref p ∧ (SqL T.K H p vs ∨ SqT T.K H p vs) ∧ Reps T F vs ds := by
  unfold seqC at k
  split at k
  · cases k
    cases h with
    | lst q r => exact ⟨_, _, rfl, .inl (SqL.of (e _ _ q)), r⟩
  · cases k
    cases h with
    | tup q r => exact ⟨_, _, rfl, .inr (SqT.of (e _ _ q)), r⟩
  · cases k
    cases h with
    | scr q => exact ⟨_, _, rfl, .inl (Same.seq e q), reps_of_ints _⟩
  · cases k
    obtain ⟨p, rfl, _, _, h⟩ := h
    obtain ⟨vs, q, r⟩ := h.fl
    exact ⟨p, vs, rfl, .inl (SqL.of q), r⟩
  · cases k
    obtain ⟨p, rfl, h⟩ := h
    obtain ⟨vs, q, r⟩ := h.fl
    exact ⟨p, vs, rfl, .inl (SqL.of q), r⟩
  · cases k
    obtain ⟨p, rfl, _, h⟩ := h
    obtain ⟨vs, q, r⟩ := h.fl
    exact ⟨p, vs, rfl, .inl (SqL.of q), r⟩
  · cases k
theorem RepW.lst (e : Same F H) (h : RepW T G Hs F H v w) (k : lstC w = some ds) : ∃ p vs, v = .ref p ∧ SqL T.K H p vs ∧ Reps T F vs ds := by
  unfold lstC at k
  split at k
  · cases k
  · rename_i hn
    unfold seqC at k
    split at k
    · cases k
      cases h with
      | lst q r => exact ⟨_, _, rfl, SqL.of (e _ _ q), r⟩
    · exact absurd rfl (hn _)
    · cases k
      cases h with
      | scr q => exact ⟨_, _, rfl, Same.seq e q, reps_of_ints _⟩
    · cases k
      obtain ⟨p, rfl, _, _, h⟩ := h
      obtain ⟨vs, q, r⟩ := h.fl
      exact ⟨p, vs, rfl, SqL.of q, r⟩
    · cases k
      obtain ⟨p, rfl, h⟩ := h
      obtain ⟨vs, q, r⟩ := h.fl
      exact ⟨p, vs, rfl, SqL.of q, r⟩
    · cases k
      obtain ⟨p, rfl, _, h⟩ := h
      obtain ⟨vs, q, r⟩ := h.fl
      exact ⟨p, vs, rfl, SqL.of q, r⟩
    · cases k
/-- a new list as an answer -/
theorem new_list {G : Gx} {F0 H0 F' H' : Hp} {vs : List V} {P : W → Prop} {Q : VK} (g : Go F0 H0 F' H') (r : Reps T F' vs ds) (q : P (.fr (.fl ds)))
    (k : ∀ z, P z → ∀ v F2 H2, Go F0 H0 F2 H2 → RepW T G H0 F2 H2 v z → Q v H2) (hp : H' p = none) : Q (.ref p) (upd H' p (.lst vs)) :=
  k _ q _ F' _ (g.lay hp) ⟨p, rfl, g.h.free hp, g.ex.free hp, _, upd_same, vs, rfl, r⟩
theorem new_tup {G : Gx} {F0 H0 F' H' : Hp} {vs : List V} {P : W → Prop} {Q : VK} (g : Go F0 H0 F' H') (r : Reps T F' vs ds) (q : P (.cl (.tup ds)))
    (k : ∀ z, P z → ∀ v F2 H2, Go F0 H0 F2 H2 → RepW T G H0 F2 H2 v z → Q v H2) (hp : H' p = none) : Q (.ref p) (upd H' p (.tup vs)) :=
  k _ q _ _ _ (g.new hp) (.tup upd_same (r.mono (Same.updN (g.ex.free hp))))
end
def dSz (n : Nat) : Prop := n ≤ 1000000
theorem dSz_line {n : Nat} (h : n ≤ 1000000) : n ≤ sizeLine := Nat.le_trans h (by decide)
theorem dSz_lt {n : Nat} (h : n < 1000000) : n < sizeLine := Nat.lt_of_lt_of_le h (by decide)
def dAdd : W → W → (W → Prop) → Prop := fun x y Q => match x, y with
  | .cl (.int i), .cl (.int j) => Q (.cl (.int (i + j)))
  | .cl (.str i), .cl (.str j) => i.length + j.length ≤ 1000000 ∧ Q (.cl (.str (i ++ j)))
  | x, y => match itemsC x, itemsC y with
    | some a, some b => a.length + b.length ≤ 1000000 ∧ Q (.fr (.fl (a ++ b)))
    | _, _ => False
def dMul : W → W → (W → Prop) → Prop := fun x y Q => match x, y with
  | .cl (.int i), .cl (.int j) => CM i j ∧ Q (.cl (.int (i * j)))
  | x, y => match itemsC x, y with
    | some a, .cl (.int k) => (-1000000 ≤ k ∧ k ≤ 1000000 ∧ a.length * k.toNat ≤ 1000000) ∧ Q (.fr (.fl (List.replicate k.toNat a).flatten))
    | _, _ => False
/-- the item at a place, from the end too -/
def ixD {α : Type} (ds : List α) (i : Int) : Option α := if 0 ≤ i then ds[i.toNat]? else if 0 ≤ i + ds.length then ds[(i + ds.length).toNat]? else none
theorem ixD_atI {α : Type} {ds : List α} {i : Int} {d : α} (h : ixD ds i = some d) : atI ds i = some d := by
  unfold ixD at h
  unfold atI ixN
  by_cases h0 : 0 ≤ i
  · rw [if_pos h0] at h
    have hl : i < ds.length := by
      have := (List.getElem?_eq_some_iff.mp h).1
      omega
    simp only [h0, hl, if_true]
    exact h
  · rw [if_neg h0] at h
    by_cases h1 : 0 ≤ i + ds.length
    · rw [if_pos h1] at h
      have : -(ds.length : Int) ≤ i := by omega
      simp only [h0, this, if_true, if_false]
      exact h
    · rw [if_neg h1] at h; cases h
theorem ixD_place {α : Type} {ds : List α} {i : Int} {d : α} (h : ixD ds i = some d) : ∃ j, ixN ds.length i = some j ∧ ds[j]? = some d := by
  have q := ixD_atI h
  unfold atI at q
  cases e : ixN ds.length i with
  | none => rw [e] at q; cases q
  | some j => rw [e] at q; exact ⟨j, rfl, q⟩
theorem Reps.atI {T : Tb} {F : Hp} {vs : List V} {ds : List D} {i : Int} {d : D} (r : Reps T F vs ds) (h : ixD ds i = some d) : ∃ v, atI vs i = some v ∧ Rep T F v d := by
  obtain ⟨j, hj, hd⟩ := ixD_place h
  obtain ⟨v, hv, rv⟩ := r.getD hd
  refine ⟨v, ?_, rv⟩
  unfold L2.atI
  rw [r.length, hj]
  exact hv
def dIx : W → W → (W → Prop) → Prop := fun x y Q => match seqC x, y with
  | some ds, .cl (.int i) => match ixD ds i with
    | some d => Q (.cl d)
    | none => False
  | _, _ => False
/-- a dict by its keys -/
def lookD : List D → List D → D → Option D
  | k :: ks, d :: ds, x => if eqD k x then some d else lookD ks ds x
  | _, _, _ => none
def inD (x : D) (ds : List D) : Bool := ds.any fun y => eqD y x
def dIn (neg : Bool) : W → W → (W → Prop) → Prop := fun x y Q => match lstC y with
  | some ds => okD x.toD = true ∧ okD (.lst ds) = true ∧ Q (.cl (.bl (if neg then !inD x.toD ds else inD x.toD ds)))
  | none => False
section
variable {T : Tb} {X : Cx}
theorem dAdd_inv {x y : W} {Q : W → Prop} (h : dAdd x y Q) : (∃ i j, x = .cl (.int i) ∧ y = .cl (.int j) ∧ Q (.cl (.int (i + j)))) ∨
    (∃ i j, x = .cl (.str i) ∧ y = .cl (.str j) ∧ i.length + j.length ≤ 1000000 ∧ Q (.cl (.str (i ++ j)))) ∨
    (∃ a b, itemsC x = some a ∧ itemsC y = some b ∧ a.length + b.length ≤ 1000000 ∧ Q (.fr (.fl (a ++ b)))) := by
  unfold dAdd at h
  split at h
  · exact .inl ⟨_, _, rfl, rfl, h⟩
  · exact .inr (.inl ⟨_, _, rfl, rfl, h⟩)
  · split at h
    · exact .inr (.inr ⟨_, _, by assumption, by assumption, h⟩)
    · exact h.elim
def rAddAll : R2 := fun x y H Q => (rI0 fun i j => .int (i + j)) x y H Q ∨ (∃ i j, x = .str i ∧ y = .str j ∧ i.length + j.length ≤ sizeLine ∧ Q (.str (i ++ j)) H) ∨ rCat x y H Q
theorem op_addAll : OpR X (binaryOp .Add) rAddAll := op_add.or (op_add_str.or op_cat)
theorem b_add : Bin2 T rAddAll dAdd := by
  intro G F H F' H' x y u w P Q go rx ry h k
  rcases dAdd_inv h with ⟨i, j, rfl, rfl, q⟩ | ⟨i, j, rfl, rfl, l, q⟩ | ⟨a, b, ea, eb, l, q⟩
  · exact .inl ⟨i, j, rep_int rx, rep_int ry, k _ q _ _ _ go (.int _)⟩
  · exact .inr (.inl ⟨i, j, rep_str rx, rep_str ry, dSz_line l, k _ q _ _ _ go (.str _)⟩)
  · obtain ⟨p1, vs, rfl, h1, r1⟩ := rx.items go.ex ea
    obtain ⟨p2, ws, rfl, h2, r2⟩ := ry.items go.ex eb
    refine .inr (.inr ⟨p1, p2, vs, ws, rfl, rfl, h1, h2, by rw [r1.length, r2.length]; exact dSz_line l, fun p hp => ?_⟩)
    exact new_list go (r1.append r2) q k hp
theorem dMul_inv {x y : W} {Q : W → Prop} (h : dMul x y Q) : (∃ i j, x = .cl (.int i) ∧ y = .cl (.int j) ∧ CM i j ∧ Q (.cl (.int (i * j)))) ∨
    (∃ a k, itemsC x = some a ∧ y = .cl (.int k) ∧ (-1000000 ≤ k ∧ k ≤ 1000000 ∧ a.length * k.toNat ≤ 1000000) ∧ Q (.fr (.fl (List.replicate k.toNat a).flatten))) := by
  unfold dMul at h
  split at h
  · exact .inl ⟨_, _, rfl, rfl, h⟩
  · split at h
    · exact .inr ⟨_, _, by assumption, rfl, h⟩
    · exact h.elim
def rMulAll : R2 := fun x y H Q => (rI CMul fun i j => .int (i * j)) x y H Q ∨ rRep x y H Q
theorem op_mulAll : OpR X (binaryOp .Mult) rMulAll := op_mul.or op_rep
theorem b_mulAll : Bin2 T rMulAll dMul := by
  intro G F H F' H' x y u w P Q go rx ry h k
  rcases dMul_inv h with ⟨i, j, rfl, rfl, c, q⟩ | ⟨a, n, ea, rfl, l, q⟩
  · exact .inl ⟨i, j, rep_int rx, rep_int ry, c, k _ q _ _ _ go (.int _)⟩
  · obtain ⟨p1, vs, rfl, h1, r1⟩ := rx.items go.ex ea
    refine .inr ⟨p1, n, vs, rfl, rep_int ry, h1, by omega, by omega, by rw [r1.length]; exact dSz_line l.2.2, fun p hp => ?_⟩
    exact new_list go (r1.replicate n.toNat) q k hp
theorem b_eq : Bin2 T (rEqD T.K) dEq := by
  intro G F H F' H' x y u w P Q go rx ry h k
  obtain ⟨o1, o2, q⟩ := h
  exact ⟨_, _, (rx.rep go.ex).dpo o1, (ry.rep go.ex).dpo o2, o1, o2, k _ q _ _ _ go (.bl _)⟩
theorem b_ne : Bin2 T (rNeD T.K) dNe := by
  intro G F H F' H' x y u w P Q go rx ry h k
  obtain ⟨o1, o2, q⟩ := h
  exact ⟨_, _, (rx.rep go.ex).dpo o1, (ry.rep go.ex).dpo o2, o1, o2, k _ q _ _ _ go (.bl _)⟩
def rIsN : R2 := fun x y H Q => y = .non ∧ Q (.bl (decide (x = .non))) H
def rNotN : R2 := fun x y H Q => y = .non ∧ Q (.bl (!decide (x = .non))) H
theorem op_isN1 : OpR X (compareOp .Is) rIsN := op_isN
theorem op_notN1 : OpR X (compareOp .IsNot) rNotN := op_notN
theorem RepW.non {G : Gx} {Hs F H : Hp} {v : V} {w : W} (h : RepW T G Hs F H v w) : decide (v = .non) = (match w with | .cl .non => true | _ => false) := by
  cases w with
  | cl d => cases h <;> rfl
  | bw m => obtain ⟨p, rfl, _⟩ := h; rfl
  | ow m => obtain ⟨p, rfl, _⟩ := h; rfl
  | fr m => obtain ⟨p, rfl, _⟩ := h; rfl
theorem b_isN : Bin2 T rIsN dIsN := by
  intro G F H F' H' x y u w P Q go rx ry h k
  have e := rx.non
  unfold dIsN at h
  split at h
  · refine ⟨rep_non ry, ?_⟩
    rw [e]
    exact k _ h _ _ _ go (.bl _)
  · rename_i hn
    refine ⟨rep_non ry, ?_⟩
    rw [e]
    split
    · exact (hn rfl).elim
    · exact k _ h _ _ _ go (.bl _)
  · exact h.elim
theorem b_notN : Bin2 T rNotN dNotN := by
  intro G F H F' H' x y u w P Q go rx ry h k
  have e := rx.non
  unfold dNotN at h
  split at h
  · refine ⟨rep_non ry, ?_⟩
    rw [e]
    exact k _ h _ _ _ go (.bl _)
  · rename_i hn
    refine ⟨rep_non ry, ?_⟩
    rw [e]
    split
    · exact (hn rfl).elim
    · exact k _ h _ _ _ go (.bl _)
  · exact h.elim
theorem b_ix : Bin2 T (rIx T.K) dIx := by
  intro G F H F' H' x y u w P Q go rx ry h k
  unfold dIx at h
  split at h
  · rename_i ds i es
    split at h
    · rename_i d ed
      obtain ⟨p, vs, rfl, hs, r⟩ := rx.seq go.ex es
      obtain ⟨v, hv, rv⟩ := r.atI ed
      have qv := k _ h v _ _ go rv
      rcases hs with hs | hs
      · exact .inl ⟨p, vs, i, v, rfl, rep_int ry, hs, hv, qv⟩
      · exact .inr (.inl ⟨p, vs, i, v, rfl, rep_int ry, hs, hv, qv⟩)
    · exact h.elim
  · exact h.elim
/-- in a list (items of any depth); in a tuple of flat things -/
theorem pd_in (x : D) : ∀ ds : List D, ((pds ds).any fun z => PyData.eqv z (pd x)) = inD x ds
  | [] => rfl
  | d :: ds => by
    show (PyData.eqv (pd d) (pd x) || (pds ds).any fun z => PyData.eqv z (pd x)) = (eqD d x || inD x ds)
    rw [pd_in x ds]
    rfl
theorem b_in : Bin2 T (rInD T.K) (dIn false) := by
  intro G F H F' H' x y u w P Q go rx ry h k
  unfold dIn at h
  split at h
  · rename_i ds es
    obtain ⟨o1, o2, q⟩ := h
    obtain ⟨p, vs, rfl, hs, r⟩ := ry.lst go.ex es
    have o3 : PyData.canLayAll0 (pds ds) = true := by simpa [pd, PyData.canLay0] using SeqAt.canLay_of_shaped o2
    refine ⟨_, _, (rx.rep go.ex).dpo o1, .lst hs ((r.mono go.ex).dp o3), o1, o2, ?_⟩
    rw [pd_in]
    exact k _ q _ _ _ go (.bl _)
  · exact h.elim
theorem b_notIn : Bin2 T (rNotInD T.K) (dIn true) := by
  intro G F H F' H' x y u w P Q go rx ry h k
  unfold dIn at h
  split at h
  · rename_i ds es
    obtain ⟨o1, o2, q⟩ := h
    obtain ⟨p, vs, rfl, hs, r⟩ := ry.lst go.ex es
    have o3 : PyData.canLayAll0 (pds ds) = true := by simpa [pd, PyData.canLay0] using SeqAt.canLay_of_shaped o2
    refine ⟨_, _, (rx.rep go.ex).dpo o1, .lst hs ((r.mono go.ex).dp o3), o1, o2, ?_⟩
    rw [pd_in]
    exact k _ q _ _ _ go (.bl _)
  · exact h.elim
end
end Vl
namespace Vl
open PySem PySem.Spec PyProof.Rows L2

/-! ### arguments, displays -/
def aNil : AA := fun _ Q => Q []
def aCons (e : AE) (es : AA) : AA := fun δ Q => e δ fun w => es δ fun ws => Q (argW w :: ws)
def clDs : List W → Option (List D)
  | [] => some []
  | .cl d :: ws => (clDs ws).map (d :: ·)
  | _ :: _ => none
def aTup (es : AA) : AE := fun δ Q => es δ fun ws => match clDs ws with
  | some ds => ds.length ≤ 1000000 ∧ Q (.cl (.tup ds))
  | none => False
def aLst (es : AA) : AE := fun δ Q => es δ fun ws => match clDs ws with
  | some ds => ds.length ≤ 1000000 ∧ Q (.fr (.fl ds))
  | none => False
/-- a call by values -/
def aCB (f : List W → (W → Prop) → Prop) (es : AA) : AE := fun δ Q => es δ fun ws => f ws Q
def CallV (T : Tb) (r : List V → Hp → VK → Prop) (f : List W → (W → Prop) → Prop) : Prop := ∀ (G : Gx) (F H F' H' : Hp) (xs : List V) (ws : List W) (P : W → Prop) (Q : VK), Go F H F' H' → RepAs T G F' H' xs ws → f ws P →
  (∀ z, P z → ∀ v F2 H2, Go F H F2 H2 → RepW T G H F2 H2 v z → Q v H2) → r xs H' Q
section
variable {T : Tb} {X : Cx} {e : Expr} {es : List Expr} {x : AE} {xs : AA} {pos p : Pos} {G : Gx} {F H : Hp}
theorem reps_cl : ∀ {vs : List V} {ws : List W} {ds : List D}, RepAs T G F H vs ws → clDs ws = some ds → Reps T F vs ds
  | _, _, _, .nil, h => by cases h; exact .nil
  | _, .cl d :: ws, _, .cons r t, h => by
    unfold clDs at h
    cases q : clDs ws with
    | none => rw [q] at h; cases h
    | some es => rw [q] at h; cases h; exact .cons r (reps_cl t q)
  | _, .bw _ :: ws, _, .cons r t, h => by cases h
  | _, .ow _ :: ws, _, .cons r t, h => by cases h
  | _, .fr _ :: ws, _, .cons r t, h => by cases h
theorem a_nil : PA X [] (rdA T aNil) := pa_nil.mono fun σ H Q h => by
  obtain ⟨G, F, δ, P, R, h, k⟩ := h
  exact k _ h [] F H (Go.refl R.ex) .nil
theorem a_cons (ha : PE X e (rdE T x)) (hr : PA X es (rdA T xs)) (hs : starEach (e :: es) X.env = (false, eval e X.env) :: starEach es X.env := by rfl) : PA X (e :: es) (rdA T (aCons x xs)) :=
  (pa_cons ha hr hs).mono fun σ H Q h => by
    obtain ⟨G, F, δ, P, R, h, k⟩ := h
    refine ⟨G, F, δ, _, R, h, fun w hw v F1 H1 g r => ?_⟩
    obtain ⟨F2, g2, _, _, r2, _⟩ := RepW.arg g r
    refine ⟨G, F2, δ, _, R.go g2, hw, fun ws hws vs F3 H3 g3 r3 => ?_⟩
    exact k _ hws (v :: vs) F3 H3 (g2.trans g3) (.cons (r2.toA.go g3) r3)
theorem e_tup {x1} (h : PA X es (rdA T xs)) : PE X (.Tuple es x1 pos) (rdE T (aTup xs)) := (pe_tup h).mono fun σ H Q h => by
  obtain ⟨G, F, δ, P, R, h, k⟩ := h
  refine ⟨G, F, δ, _, R, h, fun ws hw vs F1 H1 g r => ?_⟩
  split at hw
  · rename_i ds hd
    obtain ⟨l, q⟩ := hw
    have rr := reps_cl r hd
    exact ⟨by rw [rr.length]; exact dSz_line l, fun p hp => new_tup g rr q k hp⟩
  · exact hw.elim
theorem e_lst (h : PA X es (rdA T xs)) : PE X (.List es pos) (rdE T (aLst xs)) := (pe_lst h).mono fun σ H Q h => by
  obtain ⟨G, F, δ, P, R, h, k⟩ := h
  refine ⟨G, F, δ, _, R, h, fun ws hw vs F1 H1 g r => ?_⟩
  split at hw
  · rename_i ds hd
    obtain ⟨l, q⟩ := hw
    have rr := reps_cl r hd
    exact ⟨by rw [rr.length]; exact dSz_line l, fun p hp => new_list g rr q k hp⟩
  · exact hw.elim
theorem rd_cb {r : List V → Hp → VK → Prop} {f : List W → (W → Prop) → Prop} (hf : CallV T r f) {σ : L2.St} {H : Hp} {Q : VK} (h : rdE T (aCB f xs) σ H Q) : tCB r (rdA T xs) σ H Q := by
  obtain ⟨G, F, δ, P, R, h, k⟩ := h
  exact ⟨G, F, δ, _, R, h, fun ws hw vs F1 H1 g r => hf G F H F1 H1 vs ws P Q g r hw k⟩
theorem e_cb {r : List V → Hp → VK → Prop} {f : List W → (W → Prop) → Prop} {s : Str} {id : String} (hc : CallR X (.builtin id) r) (hf : CallV T r f) (hg : Gl X s) (hm : X.mg s = none) (hv : bootBuiltins s = some (.builtin id)) (ha : PA X (e :: es) (rdA T xs)) (hn : s ≠ "__name__" := by decide) (hdb : (s == ("__debug__" : Str)) = false := by decide)
    (he : starEach (e :: es) X.env = (false, eval e X.env) :: starEach es X.env := by rfl) (hpl : (backTo pos (starEach es X.env)).any (·.1) = false := by rfl) : PE X (.Call (.Name s p) (e :: es) [] pos) (rdE T (aCB f xs)) :=
  (pe_callB hc hg hm hv ha hn hdb he hpl).mono fun _ _ _ h => rd_cb hf h
theorem e_cty {r : List V → Hp → VK → Prop} {f : List W → (W → Prop) → Prop} {s : Str} {id : String} (hc : CallR X (.type id) r) (hf : CallV T r f) (hg : Gl X s) (hm : X.mg s = none) (hv : bootBuiltins s = some (.type id)) (ha : PA X (e :: es) (rdA T xs)) (hn : s ≠ "__name__" := by decide) (hdb : (s == ("__debug__" : Str)) = false := by decide)
    (he : starEach (e :: es) X.env = (false, eval e X.env) :: starEach es X.env := by rfl) (hpl : (backTo pos (starEach es X.env)).any (·.1) = false := by rfl) : PE X (.Call (.Name s p) (e :: es) [] pos) (rdE T (aCB f xs)) :=
  (pe_callTy hc hg hm hv ha hn hdb he hpl).mono fun _ _ _ h => rd_cb hf h
theorem e_cbf {r : List V → Hp → VK → Prop} {f : List W → (W → Prop) → Prop} {s : Str} {id : String} (hc : CallR X (.builtin id) r) (hf : CallV T r f) (hg : Gl X s) (hm : X.mg s = some (.builtin id)) (ha : PA X (e :: es) (rdA T xs)) (hdb : (s == ("__debug__" : Str)) = false := by decide)
    (he : starEach (e :: es) X.env = (false, eval e X.env) :: starEach es X.env := by rfl) (hpl : (backTo pos (starEach es X.env)).any (·.1) = false := by rfl) : PE X (.Call (.Name s p) (e :: es) [] pos) (rdE T (aCB f xs)) :=
  (pe_callBfun hc hg hm ha hdb he hpl).mono fun _ _ _ h => rd_cb hf h
end

/-! ### built-ins by value -/
def one {α : Type} (f : W → α → Prop) : List W → α → Prop := fun ws Q => match ws with
  | [w] => f w Q
  | _ => False
def two {α : Type} (f : W → W → α → Prop) : List W → α → Prop := fun ws Q => match ws with
  | [w, u] => f w u Q
  | _ => False
def fLen : List W → (W → Prop) → Prop := one fun w Q => match w with
  | .cl (.str z) => z.length ≤ 1000000 ∧ Q (.cl (.int z.length))
  | .cl (.dct _ ks _) => Q (.cl (.int ks.length))
  | .bw (.fd _ ks _) => Q (.cl (.int ks.length))
  | .ow (.fd _ ks _) => Q (.cl (.int ks.length))
  | w => match seqC w with
    | some ds => Q (.cl (.int ds.length))
    | none => False
/-- len of lists, tuples, texts -/
def fLen1 : List W → (W → Prop) → Prop := one fun w Q => match w with
  | .cl (.str z) => z.length ≤ 1000000 ∧ Q (.cl (.int z.length))
  | w => match seqC w with
    | some ds => Q (.cl (.int ds.length))
    | none => False
def fInt : List W → (W → Prop) → Prop := one fun w Q => match w with
  | .cl (.int i) => Q (.cl (.int i))
  | .cl (.bl b) => Q (.cl (.int (if b then 1 else 0)))
  | _ => False
def fAbs : List W → (W → Prop) → Prop := one fun w Q => match w with
  | .cl (.int i) => Q (.cl (.int (if i < 0 then -i else i)))
  | _ => False
def fMax2 : List W → (W → Prop) → Prop := two fun w u Q => match w, u with
  | .cl (.int i), .cl (.int j) => Q (.cl (.int (if j > i then j else i)))
  | _, _ => False
def fMin2 : List W → (W → Prop) → Prop := two fun w u Q => match w, u with
  | .cl (.int i), .cl (.int j) => Q (.cl (.int (if j < i then j else i)))
  | _, _ => False
def fGcd : List W → (W → Prop) → Prop := two fun w u Q => match w, u with
  | .cl (.int i), .cl (.int j) => Q (.cl (.int ((Nat.gcd i.natAbs j.natAbs : Nat) : Int)))
  | _, _ => False
def fList : List W → (W → Prop) → Prop := one fun w Q => match seqC w with
  | some ds => Q (.fr (.fl ds))
  | none => False
section
variable {T : Tb} {X : Cx} {G : Gx} {F H : Hp}
theorem one_inv {α : Type} {f : W → α → Prop} {ws : List W} {Q : α} {xs : List V} (h : one f ws Q) (r : RepAs T G F H xs ws) : ∃ x w, xs = [x] ∧ ws = [w] ∧ RepW T G H F H x w ∧ f w Q := by
  unfold one at h
  split at h
  · rename_i w
    cases r with
    | cons r t => cases t; exact ⟨_, w, rfl, rfl, r.toW, h⟩
  · exact h.elim
theorem two_inv {α : Type} {f : W → W → α → Prop} {ws : List W} {Q : α} {xs : List V} (h : two f ws Q) (r : RepAs T G F H xs ws) : ∃ x y w u, xs = [x, y] ∧ ws = [w, u] ∧ RepW T G H F H x w ∧ RepW T G H F H y u ∧ f w u Q := by
  unfold two at h
  split at h
  · rename_i w u
    cases r with
    | cons r t => cases t with
      | cons r2 t => cases t; exact ⟨_, _, w, u, rfl, rfl, r.toW, r2.toW, h⟩
  · exact h.elim
def rLenAll (K : PySem.W.Frag) : List V → Hp → VK → Prop := fun xs H Q => (∃ z, xs = [.str z] ∧ z.length ≤ sizeLine ∧ Q (.int z.length) H) ∨ ∃ p ys, xs = [.ref p] ∧ (SqL K H p ys ∨ SqT K H p ys) ∧ Q (.int ys.length) H
theorem call_lenAll : CallR X (.builtin "len") (rLenAll X.K) := call_len_str.or call_len_seq
theorem c_len : CallV T (rLenAll T.K) fLen1 := by
  intro G F H F' H' xs ws P Q g r h k
  obtain ⟨x, w, rfl, rfl, rx, h⟩ := one_inv h r
  split at h
  · exact .inl ⟨_, by rw [rep_str rx], dSz_line h.1, k _ h.2 _ _ _ g (.int _)⟩
  · split at h
    · rename_i ds es
      obtain ⟨p, vs, rfl, hs, rr⟩ := rx.seq g.ex es
      refine .inr ⟨p, vs, rfl, hs, ?_⟩
      rw [rr.length]
      exact k _ h _ _ _ g (.int _)
    · exact h.elim
theorem c_int : CallV T (fun xs H Q => (∃ i, xs = [.int i] ∧ Q (.int i) H) ∨ ∃ k, xs = [.bl k] ∧ Q (.int (if k then 1 else 0)) H) fInt := by
  intro G F H F' H' xs ws P Q g r h k
  obtain ⟨x, w, rfl, rfl, rx, h⟩ := one_inv h r
  split at h
  · exact .inl ⟨_, by rw [rep_int rx], k _ h _ _ _ g (.int _)⟩
  · exact .inr ⟨_, by rw [rep_bl rx], k _ h _ _ _ g (.int _)⟩
  · exact h.elim
theorem c_abs : CallV T (fun xs H Q => ∃ i, xs = [.int i] ∧ Q (.int (if i < 0 then -i else i)) H) fAbs := by
  intro G F H F' H' xs ws P Q g r h k
  obtain ⟨x, w, rfl, rfl, rx, h⟩ := one_inv h r
  split at h
  · exact ⟨_, by rw [rep_int rx], k _ h _ _ _ g (.int _)⟩
  · exact h.elim
theorem c_max2 : CallV T (fun xs H Q => ∃ i j, xs = [.int i, .int j] ∧ Q (.int (if j > i then j else i)) H) fMax2 := by
  intro G F H F' H' xs ws P Q g r h k
  obtain ⟨x, y, w, u, rfl, rfl, rx, ry, h⟩ := two_inv h r
  split at h
  · exact ⟨_, _, by rw [rep_int rx, rep_int ry], k _ h _ _ _ g (.int _)⟩
  · exact h.elim
theorem c_min2 : CallV T (fun xs H Q => ∃ i j, xs = [.int i, .int j] ∧ Q (.int (if j < i then j else i)) H) fMin2 := by
  intro G F H F' H' xs ws P Q g r h k
  obtain ⟨x, y, w, u, rfl, rfl, rx, ry, h⟩ := two_inv h r
  split at h
  · exact ⟨_, _, by rw [rep_int rx, rep_int ry], k _ h _ _ _ g (.int _)⟩
  · exact h.elim
theorem c_gcd : CallV T rGcd fGcd := by
  intro G F H F' H' xs ws P Q g r h k
  obtain ⟨x, y, w, u, rfl, rfl, rx, ry, h⟩ := two_inv h r
  split at h
  · exact ⟨_, _, by rw [rep_int rx, rep_int ry], k _ h _ _ _ g (.int _)⟩
  · exact h.elim
theorem c_list : CallV T (fun xs H Q => ∃ p ys, xs = [.ref p] ∧ (SqL T.K H p ys ∨ SqT T.K H p ys) ∧ ∀ l, H l = none → Q (.ref l) (upd H l (.lst ys))) fList := by
  intro G F H F' H' xs ws P Q g r h k
  obtain ⟨x, w, rfl, rfl, rx, h⟩ := one_inv h r
  split at h
  · rename_i ds es
    obtain ⟨p, vs, rfl, hs, rr⟩ := rx.seq g.ex es
    exact ⟨p, vs, rfl, hs, fun l hl => new_list g rr h k hl⟩
  · exact h.elim
end

/-! ### isinstance(x, T), T a built-in class -/
def tyN : D → Option String
  | .non => some "NoneType"
  | .bl _ => some "bool"
  | .int _ => some "int"
  | .str _ => some "str"
  | .tup _ => some "tuple"
  | .lst _ => some "list"
  | .dct _ _ _ => some "dict"
  | _ => none
def isiT : List (String × String × Bool) := [("NoneType", "bool", false), ("NoneType", "int", false), ("NoneType", "list", false), ("NoneType", "tuple", false), ("NoneType", "str", false),
  ("bool", "bool", true), ("bool", "int", true), ("bool", "list", false), ("bool", "tuple", false), ("bool", "str", false),
  ("int", "bool", false), ("int", "int", true), ("int", "list", false), ("int", "tuple", false), ("int", "str", false),
  ("str", "bool", false), ("str", "int", false), ("str", "list", false), ("str", "tuple", false), ("str", "str", true),
  ("tuple", "bool", false), ("tuple", "int", false), ("tuple", "list", false), ("tuple", "tuple", true), ("tuple", "str", false),
  ("list", "bool", false), ("list", "int", false), ("list", "list", true), ("list", "tuple", false), ("list", "str", false)]
theorem isiT_ok : ∀ p ∈ isiT, kitB p.1 p.2.1 = some p.2.2 := by decide +kernel
def isiF (d : D) (t : String) : Option Bool := (tyN d).bind fun n => (isiT.find? fun p => p.1 == n && p.2.1 == t).map (·.2.2)
theorem isiF_inv {d : D} {t : String} {b : Bool} (h : isiF d t = some b) : ∃ n, tyN d = some n ∧ (n, t, b) ∈ isiT := by
  unfold isiF at h
  cases e : tyN d with
  | none => rw [e] at h; cases h
  | some n =>
    rw [e] at h
    have h : (isiT.find? fun p => p.1 == n && p.2.1 == t).map (·.2.2) = some b := h
    cases e2 : isiT.find? fun p => p.1 == n && p.2.1 == t with
    | none => rw [e2] at h; cases h
    | some p =>
      rw [e2] at h
      have h : some p.2.2 = some b := h
      cases h
      have h1 := List.find?_some e2
      have h2 := List.mem_of_find?_eq_some e2
      simp only [Bool.and_eq_true, beq_iff_eq] at h1
      refine ⟨n, rfl, ?_⟩
      obtain ⟨p1, p2, p3⟩ := p
      obtain ⟨rfl, rfl⟩ := h1
      exact h2
def aIsi (t : String) (a : AE) : AE := fun δ Q => a δ fun w => match isiF w.toD t with
  | some b => Q (.cl (.bl b))
  | none => False
section
variable {T : Tb} {X : Cx} {G : Gx} {F H : Hp}
theorem rep_ty {v : V} {d : D} {n : String} (r : Rep T H v d) (h : tyN d = some n) : TyX T.K H v (.type n) := by
  cases r with
  | non => cases h; exact .base .non
  | bl b => cases h; exact .base (.bl b)
  | int b => cases h; exact .base (.int b)
  | str b => cases h; exact .base (.str b)
  | tup q _ => cases h; exact .base (.tup q)
  | lst q _ => cases h; exact .base (.lst q)
  | dK q _ _ => cases h; exact .base (.dK q)
  | dT q _ _ => cases h; exact .base (.dT q)
  | ins _ _ _ => cases h
  | scr _ => cases h
theorem e_isi {e : Expr} {x : AE} {t : String} {s : Str} {p p2 pos : Pos} (hm : X.mg "isinstance" = none) (hg : Gl X "isinstance") (hg2 : Gl X s) (hm2 : X.mg s = none) (hv2 : bootBuiltins s = some (.type t)) (ha : PE X e (rdE T x)) (hTK : T.K = X.K)
    (hn : s ≠ "__name__" := by decide) (hd : (s == ("__debug__" : Str)) = false := by decide)
    (hs1 : starEach [e, .Name s p2] X.env = (false, eval e X.env) :: starEach [.Name s p2] X.env := by rfl) (hs2 : starEach [.Name s p2] X.env = (false, eval (.Name s p2) X.env) :: starEach [] X.env := by rfl) (hpl : (backTo pos (starEach [.Name s p2] X.env)).any (·.1) = false := by rfl) :
    PE X (.Call (.Name "isinstance" p) [e, .Name s p2] [] pos) (rdE T (aIsi t x)) := by
  refine (pe_callB call_isi hg hm (by decide +kernel) (pa_cons ha (pa_cons (pe_bltn (v := .ty t) hg2 hm2 hv2 rfl hn hd) pa_nil hs2) hs1) (by decide) (by decide) hs1 hpl).mono fun σ H Q h => ?_
  obtain ⟨G, F, δ, P, R, h, k⟩ := h
  refine ⟨G, F, δ, _, R, h, fun w hw v F1 H1 g r => ?_⟩
  split at hw
  · rename_i b hb0
    obtain ⟨n, hn, hb⟩ := isiF_inv hb0
    have q := hw
    refine ⟨v, .ty t, .type n, .type t, b, rfl, .ty t, ?_, kit_ty (isiT_ok _ hb), k _ q _ _ _ g (.bl b)⟩
    rw [← hTK]
    exact rep_ty (r.rep g.ex) hn
  · exact hw.elim
end

/-! ### and, or, not, if: values and tests -/
def aAndV (a b : AE) : AE := fun δ Q => a δ fun w => match w with
  | .cl (.bl true) => b δ Q
  | .cl (.bl false) => Q (.cl (.bl false))
  | _ => False
def aOrV (a b : AE) : AE := fun δ Q => a δ fun w => match w with
  | .cl (.bl true) => Q (.cl (.bl true))
  | .cl (.bl false) => b δ Q
  | _ => False
def dNot : W → (W → Prop) → Prop := fun w Q => match w with
  | .cl (.bl b) => Q (.cl (.bl (!b)))
  | _ => False
def aB (a : AE) : AT := fun δ Q => a δ fun w => match w with
  | .cl (.bl b) => Q b
  | _ => False
def aAnd (a b : AT) : AT := fun δ Q => a δ fun c => if c = true then b δ Q else Q false
def aOr (a b : AT) : AT := fun δ Q => a δ fun c => if c = true then Q true else b δ Q
def aNot (a : AT) : AT := fun δ Q => a δ fun c => Q (!c)
def aIfE (t : AT) (a b : AE) : AE := fun δ Q => t δ fun c => if c = true then a δ Q else b δ Q
section
variable {T : Tb} {X : Cx} {a b c : Expr} {x y : AE} {t u : AT} {pos : Pos} {rest : List Expr}
theorem e_one {op} (h : PE X a (rdE T x)) : PE X (.BoolOp op [a] pos) (rdE T x) := pe_one h
theorem e_and (ha : PE X a (rdE T x)) (hb : PE X (.BoolOp .And (b :: rest) pos) (rdE T y)) : PE X (.BoolOp .And (a :: b :: rest) pos) (rdE T (aAndV x y)) := (pe_and ha hb).mono fun σ H Q h => by
  obtain ⟨G, F, δ, P, R, h, k⟩ := h
  refine ⟨G, F, δ, _, R, h, fun w hw v F1 H1 g r => ?_⟩
  split at hw
  · refine ⟨true, rep_bl r, ?_⟩
    rw [if_pos rfl]
    exact ⟨G, F1, δ, P, R.go g, hw, fun z hz v F2 H2 g2 r2 => k z hz v F2 H2 (g.trans g2) (r2.back g.h)⟩
  · refine ⟨false, rep_bl r, ?_⟩
    rw [if_neg Bool.false_ne_true]
    exact k _ hw _ _ _ g (.bl _)
  · exact hw.elim
theorem e_or (ha : PE X a (rdE T x)) (hb : PE X (.BoolOp .Or (b :: rest) pos) (rdE T y)) : PE X (.BoolOp .Or (a :: b :: rest) pos) (rdE T (aOrV x y)) := (pe_or ha hb).mono fun σ H Q h => by
  obtain ⟨G, F, δ, P, R, h, k⟩ := h
  refine ⟨G, F, δ, _, R, h, fun w hw v F1 H1 g r => ?_⟩
  split at hw
  · refine ⟨true, rep_bl r, ?_⟩
    rw [if_pos rfl]
    exact k _ hw _ _ _ g (.bl _)
  · refine ⟨false, rep_bl r, ?_⟩
    rw [if_neg Bool.false_ne_true]
    exact ⟨G, F1, δ, P, R.go g, hw, fun z hz v F2 H2 g2 r2 => k z hz v F2 H2 (g.trans g2) (r2.back g.h)⟩
  · exact hw.elim
theorem e_not (ha : PE X a (rdE T x)) : PE X (.UnaryOp .Not a pos) (rdE T (aUn dNot x)) := (pe_not ha).mono fun σ H Q h => by
  obtain ⟨G, F, δ, P, R, h, k⟩ := h
  refine ⟨G, F, δ, _, R, h, fun w hw v F1 H1 g r => ?_⟩
  unfold dNot at hw
  split at hw
  · exact ⟨_, rep_bl r, k _ hw _ _ _ g (.bl _)⟩
  · exact hw.elim
theorem t_val (h : PE X a (rdE T x)) (he : ∀ whole, isTrue a X.env whole = (do let v ← whole; standAt a.pos; holding [v] (truthy v)) := by intro _; rfl) : PT X a (rdT T (aB x)) := (pt_val h he).mono fun σ H Q h => by
  obtain ⟨G, F, δ, P, R, h, k⟩ := h
  refine ⟨G, F, δ, _, R, h, fun w hw v F1 H1 g r => ?_⟩
  split at hw
  · exact ⟨_, rep_bl r, k _ hw _ _ g⟩
  · exact hw.elim
theorem t_cmp {op : CmpOp} {r : R2} {f : W → W → (W → Prop) → Prop} (ho : OpR X (compareOp op) r) (hf : Bin2 T r f) (ha : PE X a (rdE T x)) (hb : PE X b (rdE T y)) (hm : behindInMarks op b = false) : PT X (.Compare a [op] [b] pos) (rdT T (aB (aBin f x y))) :=
  (pt_cmpR ho ha hb hm).mono fun σ H Q h => by
    obtain ⟨G, F, δ, P, R, h, k⟩ := h
    refine rd_bin hf ⟨G, F, δ, _, R, h, fun w hw v F1 H1 g r => ?_⟩
    split at hw
    · exact ⟨_, rep_bl r, k _ hw _ _ g⟩
    · exact hw.elim
theorem w_and1 (h : PT X a (rdT T t)) : PW X (.BoolOp .And [a] pos) (rdT T t) := pw_and1 h
theorem w_or1 (h : PT X a (rdT T t)) : PW X (.BoolOp .Or [a] pos) (rdT T t) := pw_or1 h
theorem w_and (ha : PT X a (rdT T t)) (hb : PW X (.BoolOp .And (b :: rest) pos) (rdT T u)) : PW X (.BoolOp .And (a :: b :: rest) pos) (rdT T (aAnd t u)) := (pw_and ha hb).mono fun σ H Q h => by
  obtain ⟨G, F, δ, P, R, h, k⟩ := h
  refine ⟨G, F, δ, _, R, h, fun c hc F1 H1 g => ?_⟩
  cases c with
  | true => exact ⟨G, F1, δ, P, R.go g, hc, fun z hz F2 H2 g2 => k z hz F2 H2 (g.trans g2)⟩
  | false => exact k _ hc _ _ g
theorem w_or (ha : PT X a (rdT T t)) (hb : PW X (.BoolOp .Or (b :: rest) pos) (rdT T u)) : PW X (.BoolOp .Or (a :: b :: rest) pos) (rdT T (aOr t u)) := (pw_or ha hb).mono fun σ H Q h => by
  obtain ⟨G, F, δ, P, R, h, k⟩ := h
  refine ⟨G, F, δ, _, R, h, fun c hc F1 H1 g => ?_⟩
  cases c with
  | false => exact ⟨G, F1, δ, P, R.go g, hc, fun z hz F2 H2 g2 => k z hz F2 H2 (g.trans g2)⟩
  | true => exact k _ hc _ _ g
theorem t_not (h : PT X a (rdT T t)) : PT X (.UnaryOp .Not a pos) (rdT T (aNot t)) := (pt_not h).mono fun σ H Q h => by
  obtain ⟨G, F, δ, P, R, h, k⟩ := h
  exact ⟨G, F, δ, _, R, h, fun c hc F1 H1 g => k _ hc _ _ g⟩
theorem e_if (ht : PT X c (rdT T t)) (ha : PE X a (rdE T x)) (hb : PE X b (rdE T y)) : PE X (.IfExp c a b pos) (rdE T (aIfE t x y)) := (pe_ifExp ht ha hb).mono fun σ H Q h => by
  obtain ⟨G, F, δ, P, R, h, k⟩ := h
  refine ⟨G, F, δ, _, R, h, fun c hc F1 H1 g => ?_⟩
  cases c with
  | true => exact ⟨G, F1, δ, P, R.go g, hc, fun z hz v F2 H2 g2 r2 => k z hz v F2 H2 (g.trans g2) (r2.back g.h)⟩
  | false => exact ⟨G, F1, δ, P, R.go g, hc, fun z hz v F2 H2 g2 r2 => k z hz v F2 H2 (g.trans g2) (r2.back g.h)⟩
end
end Vl
namespace Vl
open PySem PySem.Spec PyProof.Rows L2

/-! ### statements -/
def slotA : W → Option AV
  | .cl d => some (.im d)
  | .fr m => some (.ow false m)
  | _ => none
def aNext : AS := fun E δ => E.nx δ
def aSeq (s t : AS) : AS := fun E δ => s { E with nx := t E } δ
/-- what follows is shown once -/
def aCut (s t : AS) : AS := fun E δ => ∃ Mid : List AV → Prop, s { E with nx := Mid } δ ∧ ∀ δ', Mid δ' → t E δ'
def aSet (i : Nat) (e : AE) : AS := fun E δ => e δ fun w => match slotA w with
  | some a => E.nx (δ.set i a)
  | none => False
def aDrop (e : AE) : AS := fun E δ => e δ fun _ => E.nx δ
def aIf (t : AT) (s u : AS) : AS := fun E δ => t δ fun b => if b = true then s E δ else u E δ
def aRet (e : AE) : AS := fun E δ => e δ fun w => match w with
  | .cl d => E.rt (.cl d) δ
  | .fr m => E.rt (.fr m) δ
  | _ => False
/-- a local of the def's own is handed back -/
def aRetV (i : Nat) : AS := fun E δ => match gt δ i with
  | .im d => E.rt (.cl d) δ
  | .ow false m => E.rt (.fr m) δ
  | _ => False
def aRetN : AS := fun E δ => E.rt (.cl .non) δ
def aBreak : AS := fun E δ => E.bk δ
def aCont : AS := fun E δ => E.ct δ
/-- from here on the i-th slot's list is changed by nobody -/
def frz (i : Nat) (δ : List AV) : List AV := match gt δ i with
  | .ow false m => δ.set i (.im m.toD)
  | _ => δ
def aFrz (i : Nat) (s : AS) : AS := fun E δ => s E (frz i δ)

section
variable {T : Tb} {G : Gx} {F F' F1 H H' H1 : Hp} {σ : L2.St} {δ : List AV} {v : V} {w : W} {m m' : M} {p : Addr} {i j : Nat} {a : AV} {l : Bool} {o : HO}
theorem gs_ref (h : gs σ i = some v) : i < σ.length := by
  have := gs_some h
  exact (List.getElem?_eq_some_iff.mp this).1
theorem gt_lt (h : gt δ i ≠ .non) : i < δ.length := by
  unfold gt at h
  rw [List.getD_eq_getElem?_getD] at h
  cases q : δ[i]? with
  | none => rw [q] at h; exact absurd rfl h
  | some _ => exact (List.getElem?_eq_some_iff.mp q).1
/-- a slot is stored -/
theorem RepS.put (R : RepS T G F H σ δ) (h : SlotOk T G F H (some v) a) (hd : ∀ l m, a = .ow l m → ∀ j l' m', gt δ j = .ow l' m' → gs σ j ≠ some v) : RepS T G F H (σ.set i (some v)) (δ.set i a) where
  ex := R.ex
  fr := R.fr
  th := R.th
  lh := R.lh
  f0 := R.f0
  fn := R.fn
  len := by rw [List.length_set, List.length_set]; exact R.len
  sl := fun j => by
    by_cases hi : i < σ.length
    · have hi' : i < δ.length := R.len ▸ hi
      rw [gs_set hi, gt_set hi']
      by_cases e : i = j
      · rw [if_pos e, if_pos e]; exact h
      · rw [if_neg e, if_neg e]; exact R.sl j
    · have hi' : ¬ i < δ.length := R.len ▸ hi
      rw [gs_out hi, gt_out hi']; exact R.sl j
  dj := fun j k l l' m m' e1 e2 e3 => by
    by_cases hi : i < σ.length
    · have hi' : i < δ.length := R.len ▸ hi
      rw [gs_set hi, gs_set hi] at e3
      rw [gt_set hi'] at e1 e2
      by_cases ej : i = j
      · by_cases ek : i = k
        · exact ej.symm.trans ek
        · rw [if_pos ej] at e1 e3
          rw [if_neg ek] at e2 e3
          exact absurd e3.symm (hd _ _ e1 _ _ _ e2)
      · by_cases ek : i = k
        · rw [if_neg ej] at e1 e3
          rw [if_pos ek] at e2 e3
          exact absurd e3 (hd _ _ e2 _ _ _ e1)
        · rw [if_neg ej] at e1 e3
          rw [if_neg ek] at e2 e3
          exact R.dj j k l l' m m' e1 e2 e3
    · have hi' : ¬ i < δ.length := R.len ▸ hi
      rw [gs_out hi] at e3
      rw [gt_out hi'] at e1 e2
      exact R.dj j k l l' m m' e1 e2 e3
theorem RepS.store (R : RepS T G F H σ δ) (g : Go F H F1 H1) (r : RepW T G H F1 H1 v w) (hs : slotA w = some a) : RepS T G F1 H1 (σ.set i (some v)) (δ.set i a) := by
  refine (R.go g).put ?_ ?_
  · cases w with
    | cl d => cases hs; exact ⟨v, rfl, r⟩
    | fr m =>
      cases hs
      obtain ⟨p, rfl, hp, o⟩ := r
      refine ⟨p, rfl, ?_, o⟩
      rw [if_neg Bool.false_ne_true]
      exact Classical.byContradiction fun q => R.th p q hp
    | bw m => cases hs
    | ow m => cases hs
  · intro l m e j l' m' ej hj
    cases w with
    | cl d => cases hs; cases e
    | fr m2 =>
      obtain ⟨p, rfl, hp, o⟩ := r
      have q := R.sl j
      rw [ej] at q
      obtain ⟨p', e', _, o'⟩ := q
      rw [hj] at e'
      cases e'
      obtain ⟨_, e3, _⟩ := o'.ob
      rw [hp] at e3; cases e3
    | bw m => cases hs
    | ow m => cases hs
/-- an own object is changed -/
theorem RepS.mut (R : RepS T G F H σ δ) (e : gt δ i = .ow l m) (hp : gs σ i = some (.ref p)) (h : MObj T F m' o) : RepS T G F (upd H p o) σ (δ.set i (.ow l m')) := by
  have si := R.sl i
  rw [e] at si
  obtain ⟨p', e', pl, ow⟩ := si
  rw [hp] at e'
  cases e'
  have hi' : i < δ.length := gt_lt (by rw [e]; simp)
  have fp := ow.fn
  have pin : ∀ a x, G.H0 a = some x → a ∉ G.L → a ≠ p := fun a x h1 h2 z => by
    subst z
    cases l with
    | true => exact h2 (by simpa using pl)
    | false => rw [show G.H0 a = none by simpa using pl] at h1; cases h1
  have own_keep : ∀ {q : Addr} {m2 : M}, q ≠ p → Own T F H q m2 → Own T F (upd H p o) q m2 := fun {q m2} hq ⟨a, b, c, d⟩ => ⟨a, b, by rw [upd_ne hq]; exact c, d⟩
  refine ⟨fun a x h1 => ?_, fun a x h1 h2 => ?_, fun a h1 => ?_, R.lh, R.f0, R.fn, by rw [List.length_set]; exact R.len, fun j => ?_, fun j k l1 l2 m1 m2 e1 e2 e3 => ?_⟩
  · rw [upd_ne (ne_of_none h1 fp)]; exact R.ex _ _ h1
  · rw [upd_ne (pin a x h1 h2)]; exact R.fr a x h1 h2
  · by_cases q : a = p
    · subst q; rw [upd_same]; simp
    · rw [upd_ne q]; exact R.th a h1
  · rw [gt_set hi']
    by_cases ej : i = j
    · rw [if_pos ej, ← ej, hp]
      exact ⟨p, rfl, pl, fp, o, upd_same, h⟩
    · rw [if_neg ej]
      have q := R.sl j
      revert q
      generalize hg : gt δ j = aj
      intro q
      cases aj with
      | non => trivial
      | im d => exact q
      | bw m2 =>
        obtain ⟨q', e1, h1, h2, h3⟩ := q
        refine ⟨q', e1, h1, h2, own_keep (fun z => ?_) h3⟩
        subst z
        cases l with
        | true => exact h1 (by simpa using pl)
        | false => exact h2 (by simpa using pl)
      | ow l2 m2 =>
        obtain ⟨q', e1, h1, h3⟩ := q
        refine ⟨q', e1, h1, own_keep (fun z => ?_) h3⟩
        subst z
        exact ej (R.dj i j l l2 m m2 e hg (hp.trans e1.symm))
  · rw [gt_set hi'] at e1 e2
    have f : ∀ {k l1 m1}, (if i = k then AV.ow l m' else gt δ k) = .ow l1 m1 → ∃ l3 m3, gt δ k = .ow l3 m3 := fun {k l1 m1} h => by
      by_cases q : i = k
      · subst q; exact ⟨_, _, e⟩
      · rw [if_neg q] at h; exact ⟨_, _, h⟩
    obtain ⟨_, _, a1⟩ := f e1
    obtain ⟨_, _, a2⟩ := f e2
    exact R.dj j k _ _ _ _ a1 a2 e3
/-- an own object is changed by nobody from here on -/
theorem RepS.frz (R : RepS T G F H σ δ) (i : Nat) : ∃ F', Same F F' ∧ RepS T G F' H σ (frz i δ) := by
  unfold Vl.frz
  split
  · rename_i m e
    have si := R.sl i
    rw [e] at si
    obtain ⟨p, hp, pl, ow⟩ := si
    have pl : G.H0 p = none := by simpa using pl
    obtain ⟨o, ho, mo⟩ := ow.ob
    have fp := ow.fn
    have hi' : i < δ.length := gt_lt (by rw [e]; simp)
    have sm : Same F (upd F p o) := Same.updN fp
    have own_keep : ∀ {q : Addr} {m2 : M}, q ≠ p → Own T F H q m2 → Own T (upd F p o) H q m2 := fun {q m2} hq ⟨a, b, c, d⟩ => ⟨by rw [upd_ne hq]; exact a, b, c, d.mono sm⟩
    refine ⟨upd F p o, sm, fun a x h1 => ?_, R.fr, R.th, R.lh, R.f0.trans sm, fun a h1 => ?_, by rw [List.length_set]; exact R.len, fun j => ?_, fun j k l1 l2 m1 m2 e1 e2 e3 => ?_⟩
    · by_cases q : a = p
      · subst q; rw [upd_same] at h1; rw [← h1]; exact ho
      · rw [upd_ne q] at h1; exact R.ex _ _ h1
    · rw [upd_ne fun z => h1 (by rw [z]; exact pl)]; exact R.fn a h1
    · rw [gt_set hi']
      by_cases ej : i = j
      · rw [if_pos ej, ← ej, hp]
        exact ⟨_, rfl, (mo.mono sm).rep upd_same⟩
      · rw [if_neg ej]
        have q := R.sl j
        revert q
        generalize hg : gt δ j = aj
        intro q
        cases aj with
        | non => trivial
        | im d => obtain ⟨v, e1, r⟩ := q; exact ⟨v, e1, r.mono sm⟩
        | bw m2 =>
          obtain ⟨q', e1, h1, h2, h3⟩ := q
          exact ⟨q', e1, h1, h2, own_keep (fun z => h2 (by rw [z]; exact pl)) h3⟩
        | ow l2 m2 =>
          obtain ⟨q', e1, h1, h3⟩ := q
          refine ⟨q', e1, h1, own_keep (fun z => ?_) h3⟩
          subst z
          exact ej (R.dj i j false l2 m m2 e hg (hp.trans e1.symm))
    · rw [gt_set hi'] at e1 e2
      by_cases q : i = j
      · rw [if_pos q] at e1; cases e1
      · by_cases q2 : i = k
        · rw [if_pos q2] at e2; cases e2
        · rw [if_neg q] at e1; rw [if_neg q2] at e2
          exact R.dj j k _ _ _ _ e1 e2 e3
  · exact ⟨F, Same.refl _, R⟩
end
section
variable {T : Tb} {X : Cx} {st : Stmt} {rest : List Stmt} {s t u : AS} {e c : Expr} {x : AE} {at_ : AT} {pos : Pos} {i : Nat}
theorem ss_nil : PSs X [] (rdS T aNext) := pss_nil.mono fun D σ H h => by
  obtain ⟨G, F, δ, E, R, h, k⟩ := h
  exact k.nx _ h F H σ (Same.refl _) R
theorem ss_cons (h1 : PS X st (rdS T s)) (h2 : PSs X rest (rdS T t)) : PSs X (st :: rest) (rdS T (aSeq s t)) := (pss_cons h1 h2).mono fun D σ H h => by
  obtain ⟨G, F, δ, E, R, h, k⟩ := h
  exact ⟨G, F, δ, _, R, h, ⟨fun δ' q F' H' σ' s R' => ⟨G, F', δ', E, R', q, k.mono s⟩, k.rt, k.bk, k.ct⟩⟩
theorem ss_cut (h1 : PS X st (rdS T s)) (h2 : PSs X rest (rdS T t)) : PSs X (st :: rest) (rdS T (aCut s t)) := (pss_cons h1 h2).mono fun D σ H h => by
  obtain ⟨G, F, δ, E, R, ⟨Mid, h, hm⟩, k⟩ := h
  exact ⟨G, F, δ, _, R, h, ⟨fun δ' q F' H' σ' s R' => ⟨G, F', δ', E, R', hm δ' q, k.mono s⟩, k.rt, k.bk, k.ct⟩⟩
theorem ss_one (h1 : PS X st (rdS T s)) : PSs X [st] (rdS T s) := pss_one h1
theorem s_frz (i : Nat) (h : PS X st (rdS T s)) : PS X st (rdS T (aFrz i s)) := h.mono fun D σ H h => by
  obtain ⟨G, F, δ, E, R, h, k⟩ := h
  obtain ⟨F', sm, R'⟩ := R.frz i
  exact ⟨G, F', _, E, R', h, k.mono sm⟩
theorem ss_frz (i : Nat) (h : PSs X rest (rdS T s)) : PSs X rest (rdS T (aFrz i s)) := h.mono fun D σ H h => by
  obtain ⟨G, F, δ, E, R, h, k⟩ := h
  obtain ⟨F', sm, R'⟩ := R.frz i
  exact ⟨G, F', _, E, R', h, k.mono sm⟩
theorem s_pass : PS X (.Pass pos) (rdS T aNext) := ps_pass.mono fun D σ H h => by
  obtain ⟨G, F, δ, E, R, h, k⟩ := h
  exact k.nx _ h F H σ (Same.refl _) R
theorem s_break : PS X (.Break pos) (rdS T aBreak) := ps_break.mono fun D σ H h => by
  obtain ⟨G, F, δ, E, R, h, k⟩ := h
  exact k.bk _ h F H σ (Same.refl _) R
theorem s_cont : PS X (.Continue pos) (rdS T aCont) := ps_continue.mono fun D σ H h => by
  obtain ⟨G, F, δ, E, R, h, k⟩ := h
  exact k.ct _ h F H σ (Same.refl _) R
theorem rd_set {D : Ends} {σ : L2.St} {H : Hp} (h : rdS T (aSet i x) D σ H) : tAsg (rdE T x) (gName i) D σ H := by
  obtain ⟨G, F, δ, E, R, h, k⟩ := h
  refine ⟨G, F, δ, _, R, h, fun w hw v F1 H1 g r => ?_⟩
  split at hw
  · rename_i a ha
    exact k.nx _ hw F1 H1 _ g.f (R.store g r ha)
  · exact hw.elim
theorem s_set {y : Str} {pos' : Pos} (hN : X.N.Nodup) (hi : X.N[i]? = some y) (hx : Loc X.env.scope y) (he : PE X e (rdE T x)) (hs : swapsWith e (some (.Name y pos')) pos.line X.env = pure false := by rfl) (hf : X.fn y = true ∨ X.env.scope.names.lookup y = some .local := by first | exact .inl rfl | exact .inr rfl | assumption) :
    PS X (.Assign [.Name y pos'] e pos) (rdS T (aSet i x)) := (ps_set hN hi hx he hs hf).mono fun _ _ _ h => rd_set h
theorem s_expr (he : PE X e (rdE T x)) (hs : swapsWith e none pos.line X.env = pure false := by rfl) : PS X (.Expr e pos) (rdS T (aDrop x)) := (ps_expr he hs).mono fun D σ H h => by
  obtain ⟨G, F, δ, E, R, h, k⟩ := h
  exact ⟨G, F, δ, _, R, h, fun w hw v F1 H1 g r => k.nx _ hw F1 H1 _ g.f (R.go g)⟩
theorem s_if {a b : List Stmt} (ht : PT X c (rdT T at_)) (ha : PSs X a (rdS T s)) (hb : PSs X b (rdS T u)) : PS X (.If c a b pos) (rdS T (aIf at_ s u)) := (ps_if ht ha hb).mono fun D σ H h => by
  obtain ⟨G, F, δ, E, R, h, k⟩ := h
  refine ⟨G, F, δ, _, R, h, fun c hc F1 H1 g => ?_⟩
  cases c with
  | true => exact ⟨G, F1, δ, E, R.go g, hc, k.mono g.f⟩
  | false => exact ⟨G, F1, δ, E, R.go g, hc, k.mono g.f⟩
theorem s_ret (he : PE X e (rdE T x)) : PS X (.Return (some e) pos) (rdS T (aRet x)) := (ps_ret he).mono fun D σ H h => by
  obtain ⟨G, F, δ, E, R, h, k⟩ := h
  refine ⟨G, F, δ, _, R, h, fun w hw v F1 H1 g r => ?_⟩
  split at hw
  · exact k.rt _ δ hw v F1 H1 σ g.f (R.go g) r
  · refine k.rt _ δ hw v F1 H1 σ g.f (R.go g) ?_
    obtain ⟨p, e, hp, o⟩ := r
    exact ⟨p, e, Classical.byContradiction fun q => R.th p q hp, o⟩
  · exact hw.elim
theorem s_retV (i : Nat) {y : Str} {p2 : Pos} (hN : X.N[i]? = some y := by rfl) (hv : Vis X.env.scope y := by first | exact Or.inl rfl | exact Or.inr (Or.inl rfl) | exact Or.inr (Or.inr rfl)) (hd : (y == ("__debug__" : Str)) = false := by decide)
    (hcd : (y == ("__classdict__" : Str)) = false := by decide) : PS X (.Return (some (.Name y p2)) pos) (rdS T (aRetV i)) := (ps_ret (pe_var hN hv hd hcd)).mono fun D σ H h => by
  obtain ⟨G, F, δ, E, R, h, k⟩ := h
  have q := R.sl i
  unfold aRetV at h
  generalize gt δ i = a at h q
  cases a with
  | non => exact h.elim
  | im d =>
    obtain ⟨v, e, r⟩ := q
    exact ⟨v, gs_some e, k.rt _ δ h v F H σ (Same.refl _) R r⟩
  | bw m => exact h.elim
  | ow l m =>
    cases l with
    | true => exact h.elim
    | false =>
      obtain ⟨p, e, hp, r⟩ := q
      exact ⟨.ref p, gs_some e, k.rt _ δ h _ F H σ (Same.refl _) R ⟨p, rfl, by simpa using hp, r⟩⟩
theorem s_retN : PS X (.Return none pos) (rdS T aRetN) := ps_retN.mono fun D σ H h => by
  obtain ⟨G, F, δ, E, R, h, k⟩ := h
  exact k.rt _ δ h .non F H σ (Same.refl _) R .non
end

/-! ### targets -/
abbrev AG := D → List AV → (List AV → Prop) → Prop
abbrev AGs := List D → List AV → (List AV → Prop) → Prop
def agN (i : Nat) : AG := fun d δ Q => Q (δ.set i (.im d))
def agT (n : Nat) (g : AGs) : AG := fun d δ Q => match d with
  | .tup ds => ds.length = n ∧ g ds δ Q
  | _ => False
def agNil : AGs := fun ds δ Q => ds = [] ∧ Q δ
def agCons (g : AG) (gs : AGs) : AGs := fun ds δ Q => match ds with
  | d :: ds => g d δ fun δ' => gs ds δ' Q
  | [] => False
/-- slots outside ks are as they were -/
def Keep (ks : List Nat) (σ σ' : L2.St) : Prop := σ'.length = σ.length ∧ ∀ i, i ∉ ks → σ'[i]? = σ[i]?
def rdG (T : Tb) (ks : List Nat) (a : AG) : TG := fun v σ H Q => ∃ G F δ P d, RepS T G F H σ δ ∧ Rep T F v d ∧ a d δ P ∧ ∀ δ', P δ' → ∀ σ', Keep ks σ σ' → RepS T G F H σ' δ' → Q σ' H
def rdGs (T : Tb) (ks : List Nat) (a : AGs) : TGs := fun vs σ H Q => ∃ G F δ P ds, RepS T G F H σ δ ∧ Reps T F vs ds ∧ a ds δ P ∧ ∀ δ', P δ' → ∀ σ', Keep ks σ σ' → RepS T G F H σ' δ' → Q σ' H
theorem _root_.L2.PG.mono {X : Cx} {e : Expr} {t t' : TG} (h : PG X e t) (k : ∀ v σ H Q, t' v σ H Q → t v σ H Q) : PG X e t' := ⟨fun pins s σ H v u Q I r q => h.run pins s σ H v u Q I r (k v σ H Q q)⟩
theorem _root_.L2.PGs.mono {X : Cx} {e : List Expr} {t t' : TGs} (h : PGs X e t) (k : ∀ v σ H Q, t' v σ H Q → t v σ H Q) : PGs X e t' := ⟨fun pins s σ H v u Q I r q => h.run pins s σ H v u Q I r (k v σ H Q q)⟩
section
variable {T : Tb} {X : Cx} {pos : Pos} {ks ks' : List Nat} {σ σ' σ2 : L2.St}
theorem Keep.refl : Keep ks σ σ := ⟨rfl, fun _ _ => rfl⟩
theorem Keep.trans (a : Keep ks σ σ') (b : Keep ks' σ' σ2) : Keep (ks ++ ks') σ σ2 :=
  ⟨b.1.trans a.1, fun i hi => (b.2 i fun h => hi (List.mem_append_right _ h)).trans (a.2 i fun h => hi (List.mem_append_left _ h))⟩
theorem g_name {i : Nat} {x : Str} (hN : X.N.Nodup) (hi : X.N[i]? = some x) (hx : Loc X.env.scope x) (hf : X.fn x = true ∨ X.env.scope.names.lookup x = some .local := by first | exact .inl rfl | exact .inr rfl | assumption) : PG X (.Name x pos) (rdG T [i] (agN i)) :=
  (pg_name hN hi hx hf).mono fun v σ H Q h => by
    obtain ⟨G, F, δ, P, d, R, r, h, k⟩ := h
    refine k _ h _ ⟨by rw [List.length_set], fun j hj => ?_⟩ (R.put (a := .im d) ⟨v, rfl, r⟩ fun _ _ e => nomatch e)
    rw [List.getElem?_set_ne]
    exact fun e => hj (by simp [e])
theorem g_nil : PGs X [] (rdGs T [] agNil) := pgs_nil.mono fun v σ H Q h => by
  obtain ⟨G, F, δ, P, d, R, r, ⟨e, h⟩, k⟩ := h
  subst e
  cases r
  exact ⟨rfl, k _ h _ Keep.refl R⟩
theorem g_cons {e : Expr} {es : List Expr} {a : AG} {as : AGs} (h1 : PG X e (rdG T ks a)) (h2 : PGs X es (rdGs T ks' as))
    (hs : (assignEach (e :: es) X.env).map (·.2) = assign e X.env :: (assignEach es X.env).map (·.2) := by rfl) : PGs X (e :: es) (rdGs T (ks ++ ks') (agCons a as)) := (pgs_cons h1 h2 hs).mono fun v σ H Q h => by
  obtain ⟨G, F, δ, P, ds, R, r, h, k⟩ := h
  cases r with
  | nil => exact h.elim
  | cons r t =>
    exact ⟨_, _, rfl, G, F, δ, _, _, R, r, h, fun δ' q σ' kp R' => ⟨G, F, δ', P, _, R', t, q, fun δ2 q2 σ2 kp2 R2 => k δ2 q2 σ2 (kp.trans kp2) R2⟩⟩
theorem g_tup {es : List Expr} {k : Nat} {a : AGs} {n : Nat} (hc : X.calm = true) (h : PGs X es (rdGs T ks a))
    (hn : (assignEach es X.env).length = n := by rfl) (hst : (assignEach es X.env).findIdx? (·.1) = none := by rfl) : PG X (.Tuple es k pos) (rdG T ks (agT n a)) := (pg_tup hc h hn hst).mono fun v σ H Q h => by
  obtain ⟨G, F, δ, P, d, R, r, h, k⟩ := h
  unfold agT at h
  split at h
  · rename_i ds
    obtain ⟨q1, q2⟩ := h
    obtain ⟨p, vs, rfl, hp, rr⟩ := rep_tup r
    exact ⟨p, vs, rfl, SqT.of (R.ex _ _ hp), rr.length.trans q1, G, F, δ, P, ds, R, rr, q2, k⟩
  · exact h.elim
/-- (a, b) = e and the like -/
def aAsgG (e : AE) (g : AG) : AS := fun E δ => e δ fun w => match argW w with
  | .cl d => g d δ E.nx
  | _ => False
theorem s_asgG {tg e : Expr} {x : AE} {a : AG} (he : PE X e (rdE T x)) (hg : PG X tg (rdG T ks a)) (hs : swapsWithSole [tg] e pos.line X.env = pure false := by rfl) (hw : swappedStores [tg] e X.env = pure none := by rfl)
    (h1 : (assignEach [tg] X.env).map (·.2) = [assign tg X.env] := by rfl) : PS X (.Assign [tg] e pos) (rdS T (aAsgG x a)) := (ps_asg he hg hs hw h1).mono fun D σ H h => by
  obtain ⟨G, F, δ, E, R, h, k⟩ := h
  refine ⟨G, F, δ, _, R, h, fun w hw v F1 H1 g r => ?_⟩
  obtain ⟨F2, g2, _, _, r2, _⟩ := RepW.arg g r
  split at hw
  · rename_i d hd
    rw [hd] at r2
    exact ⟨G, F2, δ, _, d, R.go g2, r2, hw, fun δ' q σ' _ R' => k.nx _ q F2 H1 σ' g2.f R'⟩
  · exact hw.elim
end

/-! ### what is walked -/
abbrev AI := List AV → (List D → Prop) → Prop
/-- J walks over the data ds -/
def IsWalk (T : Tb) (G : Gx) (F : Hp) (J : It) (ds : List D) : Prop := ∃ Gd Y, Walk J ds.length Gd Y ∧ (∀ F' H' σ' δ', Same F F' → RepS T G F' H' σ' δ' → Gd H') ∧
  ∀ i H x H', i < ds.length → Gd H → Y i H x H' → H' = H ∧ ∃ d, ds[i]? = some d ∧ ∀ F', Same F F' → Same F' H → Rep T F' x d
def rdI (T : Tb) (a : AI) : TI := fun σ H R => ∃ G F δ P, RepS T G F H σ δ ∧ a δ P ∧ ∀ ds, P ds → ∀ J F1 H1, Go F H F1 H1 → IsWalk T G F1 J ds → R J H1
theorem _root_.L2.PI.mono {X : Cx} {tg it : Expr} {t t' : TI} (h : PI X tg it t) (k : ∀ σ H Q, t' σ H Q → t σ H Q) : PI X tg it t' := ⟨fun pins s σ H R I q => h.run pins s σ H R I (k σ H R q)⟩
/-- a list that nobody changes meanwhile -/
def iLst (a : AE) : AI := fun δ Q => a δ fun w => match argW w with
  | .cl (.lst ds) => Q ds
  | .cl (.scr ns) => Q (ns.map .int)
  | .bw (.fl ds) => Q ds
  | _ => False
def iTup (a : AE) : AI := fun δ Q => a δ fun w => match argW w with
  | .cl (.tup ds) => Q ds
  | _ => False
/-- lo, lo + 1, .. -/
def ups (lo : Int) (n : Nat) : List D := (List.range n).map fun i => .int (lo + (i : Nat))
def iR1 (a : AA) : AI := fun δ Q => a δ fun ws => match ws with
  | [.cl (.int j)] => (-1000000000000 ≤ j ∧ j ≤ 1000000000000) ∧ Q (ups 0 j.toNat)
  | _ => False
def iR2 (a : AA) : AI := fun δ Q => a δ fun ws => match ws with
  | [.cl (.int i), .cl (.int j)] => (-1000000000000 ≤ i ∧ i ≤ 1000000000000 ∧ -1000000000000 ≤ j ∧ j ≤ 1000000000000) ∧ Q (ups i (j - i).toNat)
  | _ => False
section
variable {T : Tb} {X : Cx} {tg e : Expr} {es : List Expr} {x : AE} {xs : AA} {G : Gx} {F : Hp} {pos p : Pos}
theorem walk_fl {a : Addr} {vs : List V} {ds : List D} (r : Reps T F vs ds) (hs : ∀ F' H' σ' δ', Same F F' → RepS T G F' H' σ' δ' → SqL T.K H' a vs) : IsWalk T G F (Itl T.K a) ds := by
  have w := walk_list (K := T.K) (a := a) (xs := vs)
  rw [r.length] at w
  refine ⟨_, _, w, hs, fun i H x H' hi g y => ⟨y.1, ?_⟩⟩
  obtain ⟨d, hd, rd⟩ := r.get y.2
  exact ⟨d, hd, fun F' s _ => rd.mono s⟩
theorem walk_tl {a : Addr} {vs : List V} {ds : List D} (r : Reps T F vs ds) (hs : ∀ F' H' σ' δ', Same F F' → RepS T G F' H' σ' δ' → SqT T.K H' a vs) : IsWalk T G F (Itt T.K a) ds := by
  have w := walk_tup (K := T.K) (a := a) (xs := vs)
  rw [r.length] at w
  refine ⟨_, _, w, hs, fun i H x H' hi g y => ⟨y.1, ?_⟩⟩
  obtain ⟨d, hd, rd⟩ := r.get y.2
  exact ⟨d, hd, fun F' s _ => rd.mono s⟩
theorem walk_up {lo : Int} {n : Nat} : IsWalk T G F (Itr lo n) (ups lo n) := by
  have e : (ups lo n).length = n := by unfold ups; simp
  refine ⟨fun _ => True, YFn fun i => .int (lo + i), by rw [e]; exact walk_range, fun _ _ _ _ _ _ => trivial, fun i H x H' hi g y => ⟨y.1, ?_⟩⟩
  rw [e] at hi
  refine ⟨.int (lo + (i : Nat)), by unfold ups; simp [hi], fun F' _ _ => ?_⟩
  rw [y.2]
  exact .int _
theorem i_lst (hTK : T.K = X.K) (he : PE X e (rdE T x)) : PI X tg e (rdI T (iLst x)) := (pi_list he).mono fun σ H Q h => by
  obtain ⟨G, F, δ, P, R, h, k⟩ := h
  refine ⟨G, F, δ, _, R, h, fun w hw v F1 H1 g r => ?_⟩
  obtain ⟨F2, g2, _, _, r2, _⟩ := RepW.arg g r
  rw [← hTK]
  split at hw
  · rename_i ds hd
    rw [hd] at r2
    obtain ⟨a, vs, rfl, ha, rr⟩ := rep_lst r2
    exact ⟨a, rfl, ⟨vs, SqL.of (g2.ex _ _ ha)⟩, k _ hw _ F2 H1 g2 (walk_fl rr fun F' H' σ' δ' s R' => SqL.of (R'.ex _ _ (s _ _ ha)))⟩
  · rename_i ns hd
    rw [hd] at r2
    cases r2 with
    | scr q => exact ⟨_, rfl, ⟨_, Same.seq g2.ex q⟩, k _ hw _ F2 H1 g2 (walk_fl (reps_of_ints _) fun F' H' σ' δ' s R' => Same.seq R'.ex (Same.seq s q))⟩
  · rename_i ds hd
    rw [hd] at r2
    obtain ⟨a, rfl, hn, h0, o⟩ := r2
    obtain ⟨vs, q, rr⟩ := o.fl
    refine ⟨a, rfl, ⟨vs, SqL.of q⟩, k _ hw _ F2 H1 g2 (walk_fl rr fun F' H' σ' δ' s R' => SqL.of ?_)⟩
    cases e0 : G.H0 a with
    | none => exact absurd e0 h0
    | some ob =>
      have z1 := (R.go g2).fr a ob e0 hn
      have z2 := R'.fr a ob e0 hn
      rw [z2, ← z1]; exact q
  · exact hw.elim
theorem i_tup (hTK : T.K = X.K) (he : PE X e (rdE T x)) : PI X tg e (rdI T (iTup x)) := (pi_tup he).mono fun σ H Q h => by
  obtain ⟨G, F, δ, P, R, h, k⟩ := h
  refine ⟨G, F, δ, _, R, h, fun w hw v F1 H1 g r => ?_⟩
  obtain ⟨F2, g2, _, _, r2, _⟩ := RepW.arg g r
  rw [← hTK]
  split at hw
  · rename_i ds hd
    rw [hd] at r2
    obtain ⟨a, vs, rfl, ha, rr⟩ := rep_tup r2
    exact ⟨a, rfl, ⟨vs, SqT.of (g2.ex _ _ ha)⟩, k _ hw _ F2 H1 g2 (walk_tl rr fun F' H' σ' δ' s R' => SqT.of (R'.ex _ _ (s _ _ ha)))⟩
  · exact hw.elim
theorem i_r1 (hg : Gl X "range") (hm : X.mg "range" = none) (ha : PA X [e] (rdA T xs)) (hs : starEach [e] X.env = [(false, eval e X.env)] := by rfl) : PI X tg (.Call (.Name "range" p) [e] [] pos) (rdI T (iR1 xs)) := (pi_range1 hg hm ha hs).mono fun σ H Q h => by
  obtain ⟨G, F, δ, P, R, h, k⟩ := h
  refine ⟨G, F, δ, _, R, h, fun ws hw vs F1 H1 g r => ?_⟩
  split at hw
  · rename_i j
    cases r with
    | cons r t =>
      cases t
      exact ⟨j, by rw [rep_int r], by omega, by omega, k _ hw.2 _ F1 H1 g walk_up⟩
  · exact hw.elim
theorem i_r2 {e2 : Expr} (hg : Gl X "range") (hm : X.mg "range" = none) (ha : PA X [e, e2] (rdA T xs)) (hs : starEach [e, e2] X.env = [(false, eval e X.env), (false, eval e2 X.env)] := by rfl) (hs2 : starEach [e2] X.env = [(false, eval e2 X.env)] := by rfl) :
    PI X tg (.Call (.Name "range" p) [e, e2] [] pos) (rdI T (iR2 xs)) := (pi_range2 hg hm ha hs hs2).mono fun σ H Q h => by
  obtain ⟨G, F, δ, P, R, h, k⟩ := h
  refine ⟨G, F, δ, _, R, h, fun ws hw vs F1 H1 g r => ?_⟩
  split at hw
  · rename_i i j
    cases r with
    | cons r t =>
      cases t with
      | cons r2 t =>
        cases t
        exact ⟨i, j, by rw [rep_int r, rep_int r2], ⟨by omega, by omega, by omega, by omega⟩, k _ hw.2 _ F1 H1 g walk_up⟩
  · exact hw.elim
end

/-! ### loops -/
def aFor (ai : AI) (g : AG) (body : AS) : AS := fun E δ => ai δ fun ds => ∃ I : Nat → List AV → Prop, I 0 δ ∧
  (∀ i d δ', ds[i]? = some d → I i δ' → g d δ' fun δ2 => body { E with nx := I (i + 1), ct := I (i + 1), bk := E.nx } δ2) ∧ ∀ δ', I ds.length δ' → E.nx δ'
def aWhile (t : AT) (body : AS) : AS := fun E δ => ∃ I : Nat → List AV → Prop, (∃ m, I m δ) ∧ ∀ m δ', I m δ' → t δ' fun b => if b = true then body { E with nx := fun δ2 => ∃ m', m' < m ∧ I m' δ2, ct := fun δ2 => ∃ m', m' < m ∧ I m' δ2, bk := E.nx } δ' else E.nx δ'
section
variable {T : Tb} {X : Cx} {tg it c : Expr} {body : List Stmt} {ai : AI} {ag : AG} {s : AS} {at_ : AT} {ks : List Nat} {pos : Pos}
theorem s_for (hp : PassesOwn (model X.prog X.w) X.A X.env X.xe) (hc : X.calm = true) (hi : PI X tg it (rdI T ai)) (hg : PG X tg (rdG T ks ag)) (hb : PSs X body (rdS T s))
    (hs : ∀ x, foldedSetIterable it X.env x = pure x := by intro _; rfl) : PS X (.For tg it body [] pos) (rdS T (aFor ai ag s)) := (ps_for hp hc hi hg hb hs).mono fun D σ H h => by
  obtain ⟨G, F, δ, E, R, h, k⟩ := h
  refine ⟨G, F, δ, _, R, h, fun ds hd J F1 H1 g W => ?_⟩
  obtain ⟨I, h0, hs, he⟩ := hd
  obtain ⟨Gd, Y, w, stb, yy⟩ := W
  refine for_it w (fun i σ' H' => ∃ F' δ', Same F1 F' ∧ RepS T G F' H' σ' δ' ∧ I i δ') ⟨F1, δ, Same.refl _, R.go g, h0⟩ (fun i σ' H' _ ⟨F', δ', s, R', _⟩ => stb F' H' σ' δ' s R') ?_ ?_
  · rintro i x σ' H' H2 hi ⟨F', δ', sm, R', hI⟩ hy
    obtain ⟨rfl, d, hd, rd⟩ := yy i H' x H2 hi (stb F' H' σ' δ' sm R') hy
    refine ⟨G, F', δ', _, d, R', rd F' sm R'.ex, hs i d δ' hd hI, fun δ2 q σ2 _ R2 => ?_⟩
    refine ⟨G, F', δ2, _, R2, q, ?_⟩
    exact ⟨fun δ3 q3 F3 H3 σ3 s3 R3 => ⟨F3, δ3, sm.trans s3, R3, q3⟩, fun w δ3 q3 v F3 H3 σ3 s3 => k.rt w δ3 q3 v F3 H3 σ3 (g.f.trans (sm.trans s3)),
      fun δ3 q3 F3 H3 σ3 s3 => k.nx δ3 q3 F3 H3 σ3 (g.f.trans (sm.trans s3)), fun δ3 q3 F3 H3 σ3 s3 R3 => ⟨F3, δ3, sm.trans s3, R3, q3⟩⟩
  · rintro σ' H' ⟨F', δ', sm, R', hI⟩
    exact k.nx _ (he δ' hI) F' H' σ' (g.f.trans sm) R'
theorem s_while (hp : PassesOwn (model X.prog X.w) X.A X.env X.xe) (hc : PT X c (rdT T at_)) (hb : PSs X body (rdS T s)) : PS X (.While c body [] pos) (rdS T (aWhile at_ s)) := (ps_while hp hc hb).mono fun D σ H h => by
  obtain ⟨G, F, δ, E, R, ⟨I, ⟨m, h0⟩, hs⟩, k⟩ := h
  refine ⟨fun m σ' H' => ∃ F' δ', Same F F' ∧ RepS T G F' H' σ' δ' ∧ I m δ', ⟨m, F, δ, Same.refl _, R, h0⟩, fun m σ' H' ⟨F', δ', sm, R', hI⟩ => ?_⟩
  refine ⟨G, F', δ', _, R', hs m δ' hI, fun b hb F2 H2 g => ?_⟩
  cases b with
  | true =>
    refine ⟨fun σ3 H3 => ∃ m', m' < m ∧ ∃ F' δ', Same F F' ∧ RepS T G F' H3 σ3 δ' ∧ I m' δ', fun σ3 H3 ⟨m', hm, q⟩ => ⟨m', hm, q⟩, G, F2, δ', _, R'.go g, hb, ?_⟩
    exact ⟨fun δ3 ⟨m', hm, q3⟩ F3 H3 σ3 s3 R3 => ⟨m', hm, F3, δ3, sm.trans (g.f.trans s3), R3, q3⟩, fun w δ3 q3 v F3 H3 σ3 s3 => k.rt w δ3 q3 v F3 H3 σ3 (sm.trans (g.f.trans s3)),
      fun δ3 q3 F3 H3 σ3 s3 => k.nx δ3 q3 F3 H3 σ3 (sm.trans (g.f.trans s3)), fun δ3 ⟨m', hm, q3⟩ F3 H3 σ3 s3 R3 => ⟨m', hm, F3, δ3, sm.trans (g.f.trans s3), R3, q3⟩⟩
  | false => exact k.nx _ hb F2 H2 _ (sm.trans g.f) (R'.go g)
end
end Vl
namespace Vl
open PySem PySem.Spec PyProof.Rows L2

/-! ### comprehensions -/
def wipeA (δ : List AV) : List Nat → List AV
  | [] => δ
  | v :: vs => (wipeA δ vs).set v .non
def lcGo (g : AG) (t : AT) (e : AE) (δ : List AV) : List D → List D → (W → Prop) → Prop
  | [], acc, Q => Q (.fr (.fl acc))
  | d :: ds, acc, Q => g d δ fun δ2 => t δ2 fun b => if b = true then e δ2 fun w => match argW w with
      | .cl y => acc.length < 1000000 ∧ lcGo g t e δ ds (acc ++ [y]) Q
      | _ => False
    else lcGo g t e δ ds acc Q
def aLc (ai : AI) (g : AG) (t : AT) (e : AE) (vs : List Nat) : AE := fun δ Q => ai δ fun ds => lcGo g t e (wipeA δ vs) ds [] Q
def aYes : AT := fun _ Q => Q true
section
variable {T : Tb} {X : Cx} {G : Gx} {F F' F1 H H' H1 : Hp} {σ σ' : L2.St} {δ : List AV} {p : Addr} {vs ks : List Nat}
theorem RepS.wipe (R : RepS T G F H σ δ) : ∀ vs : List Nat, RepS T G F H (wipe σ vs) (wipeA δ vs)
  | [] => R
  | v :: vs => by
    have R' := RepS.wipe R vs
    show RepS T G F H ((L2.wipe σ vs).set v none) ((wipeA δ vs).set v .non)
    refine ⟨R'.ex, R'.fr, R'.th, R'.lh, R'.f0, R'.fn, by rw [List.length_set, List.length_set]; exact R'.len, fun j => ?_, fun j k l l' m m' e1 e2 e3 => ?_⟩
    · by_cases hi : v < (L2.wipe σ vs).length
      · have hi' : v < (wipeA δ vs).length := R'.len ▸ hi
        rw [gs_set hi, gt_set hi']
        by_cases e : v = j
        · rw [if_pos e, if_pos e]; trivial
        · rw [if_neg e, if_neg e]; exact R'.sl j
      · have hi' : ¬ v < (wipeA δ vs).length := R'.len ▸ hi
        rw [gs_out hi, gt_out hi']; exact R'.sl j
    · by_cases hi : v < (L2.wipe σ vs).length
      · have hi' : v < (wipeA δ vs).length := R'.len ▸ hi
        rw [gs_set hi, gs_set hi] at e3
        rw [gt_set hi'] at e1 e2
        by_cases ej : v = j
        · rw [if_pos ej] at e1; cases e1
        · by_cases ek : v = k
          · rw [if_pos ek] at e2; cases e2
          · rw [if_neg ej] at e1 e3; rw [if_neg ek] at e2 e3
            exact R'.dj j k l l' m m' e1 e2 e3
      · have hi' : ¬ v < (wipeA δ vs).length := R'.len ▸ hi
        rw [gs_out hi] at e3
        rw [gt_out hi'] at e1 e2
        exact R'.dj j k l l' m m' e1 e2 e3
/-- an object that no slot has -/
theorem RepS.side {o : HO} (R : RepS T G F H σ δ) (hf : F p = none) (h0 : G.H0 p = none) (hL : p ∉ G.L) (hs : ∀ i l m, gt δ i = .ow l m → gs σ i ≠ some (.ref p)) : RepS T G F (upd H p o) σ δ := by
  have own_keep : ∀ {q : Addr} {m2 : M}, q ≠ p → Own T F H q m2 → Own T F (upd H p o) q m2 := fun {q m2} hq ⟨a, b, c, d⟩ => ⟨a, b, by rw [upd_ne hq]; exact c, d⟩
  refine ⟨fun a x h1 => ?_, fun a x h1 h2 => ?_, fun a h1 => ?_, R.lh, R.f0, R.fn, R.len, fun j => ?_, R.dj⟩
  · rw [upd_ne (ne_of_none h1 hf)]; exact R.ex _ _ h1
  · rw [upd_ne (ne_of_none h1 h0)]; exact R.fr a x h1 h2
  · by_cases q : a = p
    · subst q; rw [upd_same]; simp
    · rw [upd_ne q]; exact R.th a h1
  · have q := R.sl j
    revert q
    generalize hg : gt δ j = aj
    intro q
    cases aj with
    | non => trivial
    | im d => exact q
    | bw m2 =>
      obtain ⟨q', e1, h1, h2, h3⟩ := q
      exact ⟨q', e1, h1, h2, own_keep (fun z => h2 (by rw [z]; exact h0)) h3⟩
    | ow l2 m2 =>
      obtain ⟨q', e1, h1, h3⟩ := q
      exact ⟨q', e1, h1, own_keep (fun z => hs j l2 m2 hg (by rw [e1, z])) h3⟩
theorem Go.side {o : HO} (g : Go F H F' H') (hp : H p = none) (hf : F' p = none) : Go F H F' (upd H' p o) := by
  refine ⟨fun b x e => ?_, g.f, fun b x e => ?_, g.n⟩
  · rw [upd_ne (ne_of_none e hp)]; exact g.h _ _ e
  · rw [upd_ne (ne_of_none e hf)]; exact g.ex _ _ e
theorem wipe_keep (hk : ∀ i ∈ ks, i ∈ vs) (k : Keep ks (wipe σ vs) σ') : wipe σ' vs = wipe σ vs := by
  apply List.ext_getElem?
  intro i
  by_cases hi : i ∈ vs
  · have out : ∀ (τ : L2.St), τ.length = σ.length → (wipe τ vs)[i]? = if i < σ.length then some none else none := fun τ hl => by
      cases e : (wipe τ vs)[i]? with
      | none =>
        have := List.getElem?_eq_none_iff.mp e
        rw [wipe_length, hl] at this
        rw [if_neg (by omega)]
      | some x =>
        have := (List.getElem?_eq_some_iff.mp e).1
        rw [wipe_length, hl] at this
        rw [if_pos this]
        cases x with
        | none => rfl
        | some x => exact absurd hi (wipe_some e).2
    rw [out σ' (by rw [k.1, wipe_length]), out σ rfl]
  · rw [wipe_out hi, k.2 i fun h => hi (hk i h)]
def rdTs (T : Tb) (a : AT) : TT := rdT T a
theorem ts_nil {Y : Cx} : PTs Y [] (rdT T aYes) := ⟨fun pins s σ H Q I h => by
  obtain ⟨G, F, δ, P, R, h, k⟩ := h
  exact (pts_nil (X := Y)).run pins s σ H Q I (k _ h F H (Go.refl R.ex))⟩
theorem ts_one {Y : Cx} {c : Expr} {t : AT} (h : PT Y c (rdT T t)) : PTs Y [c] (rdT T t) := pts_one h
theorem rd_lc {ai : AI} {ag : AG} {t : AT} {e : AE} (hk : ∀ i ∈ ks, i ∈ vs) {Q : VK} (h : rdE T (aLc ai ag t e vs) σ H Q) : tLc (rdI T ai) (rdG T ks ag) (rdT T t) (rdE T e) vs σ H Q := by
  obtain ⟨G, F, δ, P, R, h, k⟩ := h
  refine ⟨G, F, δ, _, R, h, fun ds hd J F1 H1 g W => fun DD hD => ?_⟩
  obtain ⟨Gd, Y, w, stb, yy⟩ := W
  have R1 := R.go g
  have hD0 : H DD = none := g.h.free hD
  have h00 : G.H0 DD = none := Classical.byContradiction fun q => R.th DD q hD0
  have hL : DD ∉ G.L := fun q => R.lh DD q h00
  have Rw := R1.wipe vs
  have hso : ∀ i l m, gt (wipeA δ vs) i = .ow l m → gs (wipe σ vs) i ≠ some (.ref DD) := fun i l m e1 e2 => by
    have q := Rw.sl i
    rw [e1] at q
    obtain ⟨p', e', _, o'⟩ := q
    rw [e2] at e'
    cases e'
    obtain ⟨_, e3, _⟩ := o'.ob
    rw [hD] at e3; cases e3
  have next : ∀ {F' H' : Hp} {acc : List D} {accV : List V} {y : D} {v : V} {i : Nat}, Go F1 H1 F' H' → F' DD = none → H' DD = some (.lst accV) → Reps T F' accV acc → Rep T F' v y → lcGo ag t e (wipeA δ vs) (ds.drop (i + 1)) (acc ++ [y]) P →
      ∃ F2 acc accV2, Go F1 H1 F2 (upd H' DD (.lst (accV ++ [v]))) ∧ F2 DD = none ∧ (upd H' DD (.lst (accV ++ [v]))) DD = some (.lst accV2) ∧ Reps T F2 accV2 acc ∧ lcGo ag t e (wipeA δ vs) (ds.drop (i + 1)) acc P :=
    fun {F' H' acc accV y v i} g1 f1 h1 r1 ry q => ⟨F', acc ++ [y], accV ++ [v], g1.side hD f1, f1, upd_same, r1.snoc ry, q⟩
  have hRR : ∀ {F' H' : Hp}, Go F1 H1 F' H' → F' DD = none → RepS T G F' H' (wipe σ vs) (wipeA δ vs) := fun g1 _ => Rw.go g1
  refine lc_it w (fun i H' => ∃ F' acc accV, Go F1 H1 F' H' ∧ F' DD = none ∧ H' DD = some (.lst accV) ∧ Reps T F' accV acc ∧ lcGo ag t e (wipeA δ vs) (ds.drop i) acc P) ⟨F1, [], [], (Go.refl g.ex).lay hD, g.ex.free hD, upd_same, .nil, hd⟩
    (fun i H' _ ⟨F', _, _, g1, _⟩ => stb F' H' _ _ g1.f (Rw.go g1)) ?_ ?_
  · rintro i x H' H2 hi ⟨F', acc, accV, g1, f1, h1, r1, hq⟩ hy
    have R' := Rw.go g1
    obtain ⟨rfl, d, hd, rd⟩ := yy i H' x H2 hi (stb F' H' _ _ g1.f R') hy
    have e1 : ds.drop i = d :: ds.drop (i + 1) := by
      obtain ⟨hl, he⟩ := List.getElem?_eq_some_iff.mp hd
      rw [List.drop_eq_getElem_cons hl, he]
    rw [e1] at hq
    unfold lcGo at hq
    refine ⟨G, F', _, _, d, R', rd F' g1.f g1.ex, hq, fun δ2 q σ2 kp R2 => ⟨wipe_keep hk kp, ?_⟩⟩
    refine ⟨G, F', δ2, _, R2, q, fun b hb F3 H3 g3 => ?_⟩
    have f3 : F3 DD = none := (g3.n DD (by rw [h1]; simp)).trans f1
    have h3 : H3 DD = some (.lst accV) := g3.h _ _ h1
    cases b with
    | true =>
      rw [if_pos rfl] at hb
      refine iteT ?_
      refine ⟨G, F3, δ2, _, R2.go g3, hb, fun w hw v F4 H4 g4 r4 => ?_⟩
      obtain ⟨F5, g5, _, s5, r5, n5⟩ := RepW.arg g4 r4
      split at hw
      · rename_i y hy
        rw [hy] at r5
        have h5 : H4 DD = some (.lst accV) := g4.h _ _ h3
        have f5 : F5 DD = none := (g5.n DD (by rw [h3]; simp)).trans f3
        exact ⟨accV, h5, by rw [r1.length]; exact dSz_lt hw.1, next (g1.trans (g3.trans g5)) f5 h5 (r1.mono (g3.f.trans g5.f)) r5 hw.2⟩
      · exact hw.elim
    | false =>
      rw [if_neg Bool.false_ne_true] at hb
      refine iteF ?_
      exact ⟨F3, acc, accV, g1.trans g3, f3, h3, r1.mono g3.f, hb⟩
  · rintro H' ⟨F', acc, accV, g1, f1, h1, r1, hq⟩
    rw [List.drop_length] at hq
    unfold lcGo at hq
    exact k _ hq _ F' H' (g.trans g1) ⟨DD, rfl, hD0, f1, _, h1, accV, rfl, r1⟩
theorem e_lc {elt tg iter : Expr} {ifs : List Expr} {scope : Scope} {own : List (Str × Nat)} {pos : Pos} {ai : AI} {ag : AG} {t : AT} {e : AE} (hc : X.calm = true) (hN : X.N.Nodup) (hi : PI X tg iter (rdI T ai)) (ok : BlkOk X.N X.env.scope scope own) (hk : ∀ i ∈ ks, i ∈ own.map (·.2))
    (hg : ∀ (s : Shared) (H : Hp) (C : Addr) (cl : List (Str × Addr)) (fp : List Addr), PG (X.blk s H scope (compEnvC scope cl C X.env) fp) tg (rdG T ks ag)) (ht : ∀ (s : Shared) (H : Hp) (C : Addr) (cl : List (Str × Addr)) (fp : List Addr), PTs (X.blk s H scope (compEnvC scope cl C X.env) fp) ifs (rdT T t))
    (he : ∀ (s : Shared) (H : Hp) (C : Addr) (cl : List (Str × Addr)) (fp : List Addr), PE (X.blk s H scope (compEnvC scope cl C X.env) fp) elt (rdE T e)) (hs : ∀ x, foldedSetIterable iter X.env x = pure x := by intro _; rfl) :
    PE X (.ListComp elt [⟨tg, iter, ifs, 0⟩] scope pos) (rdE T (aLc ai ag t e (own.map (·.2)))) := (pe_lc hc hN hi ok hg ht he hs).mono fun _ _ _ h => rd_lc hk h
theorem s_setLc {i : Nat} {y : Str} {py : Pos} {elt tg iter : Expr} {ifs : List Expr} {scope : Scope} {own : List (Str × Nat)} {pos spos : Pos} {ai : AI} {ag : AG} {t : AT} {e : AE} (hc : X.calm = true) (hN : X.N.Nodup) (hy : X.N[i]? = some y) (hyl : X.env.scope.names.lookup y = some .local)
    (hsw : swapsWith (.ListComp elt [⟨tg, iter, ifs, 0⟩] scope pos) (some (.Name y py)) spos.line X.env = pure true) (hi : PI X tg iter (rdI T ai)) (ok : BlkOk X.N X.env.scope scope own) (hk : ∀ i ∈ ks, i ∈ own.map (·.2))
    (hg : ∀ (s : Shared) (H : Hp) (C : Addr) (cl : List (Str × Addr)) (fp : List Addr), PG (X.blk s H scope (compEnvC scope cl C X.env) fp) tg (rdG T ks ag)) (ht : ∀ (s : Shared) (H : Hp) (C : Addr) (cl : List (Str × Addr)) (fp : List Addr), PTs (X.blk s H scope (compEnvC scope cl C X.env) fp) ifs (rdT T t))
    (he : ∀ (s : Shared) (H : Hp) (C : Addr) (cl : List (Str × Addr)) (fp : List Addr), PE (X.blk s H scope (compEnvC scope cl C X.env) fp) elt (rdE T e)) (hs : ∀ x, foldedSetIterable iter X.env x = pure x := by intro _; rfl) :
    PS X (.Assign [.Name y py] (.ListComp elt [⟨tg, iter, ifs, 0⟩] scope pos) spos) (rdS T (aSet i (aLc ai ag t e (own.map (·.2))))) := (ps_setLc hc hN hy hyl hsw hi ok hg ht he hs).mono fun D σ H h => by
  obtain ⟨G, F, δ, E, R, h, k⟩ := h
  refine rd_lc hk ⟨G, F, δ, _, R, h, fun w hw v F1 H1 g r => ?_⟩
  split at hw
  · rename_i a ha
    exact k.nx _ hw F1 H1 _ g.f (R.store g r ha)
  · exact hw.elim
end

/-! ### slices -/
def cutD (ds : List D) (lo hi : Option Int) : List D := (ds.drop (HT.sIx ds.length 0 lo)).take (HT.sIx ds.length ds.length hi - HT.sIx ds.length 0 lo)
abbrev AO := List AV → (Option Int → Prop) → Prop
def aoN : AO := fun _ Q => Q none
def aoS (e : AE) : AO := fun δ Q => e δ fun w => match w with
  | .cl (.int i) => Q (some i)
  | _ => False
def aSl (e : AE) (lo hi : AO) : AE := fun δ Q => e δ fun w => lo δ fun l => hi δ fun h => match lstC w with
  | some ds => Q (.fr (.fl (cutD ds l h)))
  | none => False
def rdO (T : Tb) (a : AO) : TO := fun σ H Q => ∃ G F δ P, RepS T G F H σ δ ∧ a δ P ∧ ∀ o, P o → ∀ F' H', Go F H F' H' → Q o H'
theorem _root_.L2.PO.mono {X : Cx} {e : Option Expr} {t t' : TO} (h : PO X e t) (k : ∀ σ H Q, t' σ H Q → t σ H Q) : PO X e t' := by
  constructor
  intro pins s σ H Q I q
  exact h.run pins s σ H Q I (k σ H Q q)
section
variable {T : Tb} {X : Cx} {e : Expr} {x : AE} {pos p2 : Pos}
theorem o_none : PO X none (rdO T aoN) := po_none.mono fun σ H Q h => by
  obtain ⟨G, F, δ, P, R, h, k⟩ := h
  exact k _ h F H (Go.refl R.ex)
theorem o_some (h : PE X e (rdE T x)) : PO X (some e) (rdO T (aoS x)) := (po_some h).mono fun σ H Q h => by
  obtain ⟨G, F, δ, P, R, h, k⟩ := h
  refine ⟨G, F, δ, _, R, h, fun w hw v F1 H1 g r => ?_⟩
  split at hw
  · exact ⟨_, rep_int r, k _ hw _ _ g⟩
  · exact hw.elim
theorem e_sl {lo hi : Option Expr} {l h : AO} (hTK : T.K = X.K) (he : PE X e (rdE T x)) (hl : PO X lo (rdO T l)) (hh : PO X hi (rdO T h)) : PE X (.Subscript e (.Slice lo hi none p2) pos) (rdE T (aSl x l h)) := (pe_slice sl_list he hl hh).mono fun σ H Q h => by
  obtain ⟨G, F, δ, P, R, h, k⟩ := h
  refine ⟨G, F, δ, _, R, h, fun w hw v F1 H1 g r => ?_⟩
  refine ⟨G, F1, δ, _, R.go g, hw, fun lo hlo F2 H2 g2 => ?_⟩
  refine ⟨G, F2, δ, _, (R.go g).go g2, hlo, fun hi hhi F3 H3 g3 => ?_⟩
  split at hhi
  · rename_i ds hd
    have g13 := g2.trans g3
    obtain ⟨p, vs, rfl, hp, rr⟩ := (r.go g13).lst g13.ex hd
    refine ⟨p, vs, rfl, hTK ▸ hp, fun q hq => ?_⟩
    refine new_list (ds := cutD ds lo hi) (g.trans g13) ?_ hhi k hq
    unfold cutV cutD
    rw [rr.length]
    exact (rr.drop _).take _
  · exact hhi.elim
end

/-! ### a chain of two comparisons of ints -/
def aChain (p p' : Int → Int → Bool) (a b c : AE) : AE := fun δ Q => a δ fun x => match x with
  | .cl (.int i) => b δ fun y => match y with
    | .cl (.int j) => if p i j = true then c δ fun z => match z with
        | .cl (.int k) => Q (.cl (.bl (p' j k)))
        | _ => False
      else Q (.cl (.bl false))
    | _ => False
  | _ => False
section
variable {T : Tb} {X : Cx} {a b c : Expr} {x y z : AE} {pos : Pos} {p p' : Int → Int → Bool}
theorem rd_chain {σ : L2.St} {H : Hp} {Q : VK} (h : rdE T (aChain p p' x y z) σ H Q) : tChain (rI0 fun i j => .bl (p i j)) (rI0 fun i j => .bl (p' i j)) (rdE T x) (rdE T y) (rdE T z) σ H Q := by
  obtain ⟨G, F, δ, P, R, h, k⟩ := h
  refine ⟨G, F, δ, _, R, h, fun u hu v F1 H1 g r1 => ?_⟩
  split at hu
  · rename_i i
    refine ⟨G, F1, δ, _, R.go g, hu, fun u2 hu2 v2 F2 H2 g2 r2 => ?_⟩
    split at hu2
    · rename_i j
      refine ⟨i, j, rep_int r1, rep_int r2, p i j, rfl, ?_⟩
      cases hp : p i j with
      | true =>
        rw [hp, if_pos rfl] at hu2
        refine iteT ⟨G, F2, δ, _, (R.go g).go g2, hu2, fun u3 hu3 v3 F3 H3 g3 r3 => ?_⟩
        split at hu3
        · rename_i l
          exact ⟨j, l, rep_int r2, rep_int r3, k _ hu3 _ F3 H3 (g.trans (g2.trans g3)) (.bl _)⟩
        · exact hu3.elim
      | false =>
        rw [hp, if_neg Bool.false_ne_true] at hu2
        exact iteF (k _ hu2 _ F2 H2 (g.trans g2) (.bl _))
    · exact hu2.elim
  · exact hu.elim
theorem e_chain {op op' : CmpOp} (ho : OpR X (compareOp op) (rI0 fun i j => .bl (p i j))) (ho' : OpR X (compareOp op') (rI0 fun i j => .bl (p' i j))) (ha : PE X a (rdE T x)) (hb : PE X b (rdE T y)) (hc : PE X c (rdE T z))
    (hm : lastMarks [op, op'] [b, c] = false := by rfl) : PE X (.Compare a [op, op'] [b, c] pos) (rdE T (aChain p p' x y z)) := (pe_chain ho ho' ha hb hc hm).mono fun σ H Q h => rd_chain h
theorem t_chain {op op' : CmpOp} (ho : OpR X (compareOp op) (rI0 fun i j => .bl (p i j))) (ho' : OpR X (compareOp op') (rI0 fun i j => .bl (p' i j))) (ha : PE X a (rdE T x)) (hb : PE X b (rdE T y)) (hc : PE X c (rdE T z))
    (hm : lastMarks [op, op'] [b, c] = false := by rfl) : PT X (.Compare a [op, op'] [b, c] pos) (rdT T (aB (aChain p p' x y z))) := (pt_chain ho ho' ha hb hc hm).mono fun σ H Q h => by
  obtain ⟨G, F, δ, P, R, h, k⟩ := h
  refine rd_chain ⟨G, F, δ, _, R, h, fun w hw v F1 H1 g r => ?_⟩
  split at hw
  · exact ⟨_, rep_bl r, k _ hw _ _ g⟩
  · exact hw.elim
end

/-! ### own lists and dicts are changed -/
def tyM : M → String
  | .fl _ => "list"
  | .fd _ _ _ => "dict"
/-- a method of an own object: what it becomes, what is handed back -/
abbrev FM := M → List W → (M → D → Prop) → Prop
def MutV (T : Tb) (r : V → List V → Hp → VK → Prop) (f : FM) : Prop := ∀ (G : Gx) (F H : Hp) (p : Addr) (m : M) (o : HO) (xs : List V) (ws : List W) (P : M → D → Prop) (Q : VK), Same F H → H p = some o → MObj T F m o → RepAs T G F H xs ws → f m ws P →
  (∀ m' d, P m' d → ∀ v o', MObj T F m' o' → Rep T F v d → Q v (upd H p o')) → r (.ref p) xs H Q
/-- x.m(..) as a statement of its own -/
def aMut (ty : String) (i : Nat) (f : FM) (es : AA) : AS := fun E δ => match gt δ i with
  | .ow l m => tyM m = ty ∧ es δ fun ws => f m ws fun m' _ => E.nx (δ.set i (.ow l m'))
  | _ => False
/-- y = x.m(..) -/
def aMutS (ty : String) (j i : Nat) (f : FM) (es : AA) : AS := fun E δ => match gt δ i with
  | .ow l m => tyM m = ty ∧ es δ fun ws => f m ws fun m' d => E.nx ((δ.set i (.ow l m')).set j (.im d))
  | _ => False
def clW : W → Option D := fun w => match argW w with
  | .cl d => some d
  | _ => none
/-- xs[k] = e -/
def aSetIx (i : Nat) (k e : AE) : AS := fun E δ => match gt δ i with
  | .ow l (.fl ds) => e δ fun w => k δ fun z => match clW w, z with
    | some d, .cl (.int z) => match ixN ds.length z with
      | some j => E.nx (δ.set i (.ow l (.fl (ds.set j d))))
      | none => False
    | _, _ => False
  | _ => False
def mAppend : FM := fun m ws P => match m, ws with
  | .fl ds, [.cl d] => ds.length < 1000000 ∧ P (.fl (ds ++ [d])) .non
  | _, _ => False
def mPop : FM := fun m ws P => match m, ws with
  | .fl ds, [] => match ds[ds.length - 1]? with
    | some d => P (.fl ds.dropLast) d
    | none => False
  | _, _ => False
def mPopAt : FM := fun m ws P => match m, ws with
  | .fl ds, [.cl (.int i)] => (0 ≤ i ∧ i < 2 ^ 63) ∧ match ds[i.toNat]? with
    | some d => P (.fl (ds.eraseIdx i.toNat)) d
    | none => False
  | _, _ => False
def mReverse : FM := fun m ws P => match m, ws with
  | .fl ds, [] => P (.fl ds.reverse) .non
  | _, _ => False
section
variable {T : Tb} {X : Cx} {G : Gx} {F H : Hp} {σ : L2.St} {δ : List AV} {l : Bool} {m : M} {i j : Nat} {Ty : String} {r : V → List V → Hp → VK → Prop} {f : FM} {xs : AA}
theorem RepS.own {ds : List D} (R : RepS T G F H σ δ) (h : gt δ i = .ow l (.fl ds)) : ∃ p vs, gs σ i = some (.ref p) ∧ H p = some (.lst vs) ∧ Reps T F vs ds ∧ (∀ F' H', Go F H F' H' → H' p = some (.lst vs)) := by
  have q := R.sl i
  rw [h] at q
  obtain ⟨p, e, _, o⟩ := q
  obtain ⟨vs, h1, r⟩ := o.fl
  exact ⟨p, vs, e, h1, r, fun F' H' g => g.h _ _ h1⟩
theorem ty_own {K : PySem.W.Frag} {p : Addr} {o : HO} (h : H p = some o) (mo : MObj T F m o) : tyV K (tyM m) (.ref p) H := by
  cases m with
  | fl ds => obtain ⟨vs, rfl, _⟩ := mo; exact .inl ⟨rfl, vs, SqL.of h⟩
  | fd t ks ds =>
    refine .inr (.inr (.inl ⟨rfl, ?_⟩))
    cases t
    · obtain ⟨kvs, rfl, _⟩ := mo; exact .inl ⟨_, h⟩
    · obtain ⟨kvs, rfl, _⟩ := mo; exact .inr ⟨_, h⟩
theorem rd_mut (hf : MutV T r f) {P : M → D → Prop} {K : PySem.W.Frag} (hTK : T.K = K) (R : RepS T G F H σ δ) (hg : gt δ i = .ow l m) (ht : tyM m = Ty) (h : xs δ fun ws => f m ws P) {Q : VK}
    (k : ∀ m' d, P m' d → ∀ v F' H', Same F F' → RepS T G F' H' σ (δ.set i (.ow l m')) → Rep T F' v d → Q v H') :
    tBM K Ty r (tVar i) (rdA T xs) σ H Q := by
  have q := R.sl i
  rw [hg] at q
  obtain ⟨p, e, _, ow⟩ := q
  obtain ⟨o, ho, mo⟩ := ow.ob
  refine ⟨.ref p, gs_some e, ?_, ?_⟩
  · rw [← ht]; exact ty_own ho mo
  · refine ⟨G, F, δ, _, R, h, fun ws hw vs F1 H1 g ra => ?_⟩
    have R1 := R.go g
    have ho1 := g.h _ _ ho
    refine hf G F1 H1 p m o vs ws P Q g.ex ho1 (mo.mono g.f) ra hw fun m' d hP v o' mo' rv => ?_
    exact k m' d hP v F1 _ g.f (R1.mut hg e mo') rv
theorem rd_mut0 (hf : MutV T r f) {P : M → D → Prop} {K : PySem.W.Frag} (R : RepS T G F H σ δ) (hg : gt δ i = .ow l m) (ht : tyM m = Ty) (h : f m [] P) {Q : VK}
    (k : ∀ m' d, P m' d → ∀ v F' H', Same F F' → RepS T G F' H' σ (δ.set i (.ow l m')) → Rep T F' v d → Q v H') :
    tBM0 K Ty r (tVar i) σ H Q := by
  have q := R.sl i
  rw [hg] at q
  obtain ⟨p, e, _, ow⟩ := q
  obtain ⟨o, ho, mo⟩ := ow.ob
  refine ⟨.ref p, gs_some e, by rw [← ht]; exact ty_own ho mo, ?_⟩
  refine hf G F H p m o [] [] P Q R.ex ho mo .nil h fun m' d hP v o' mo' rv => ?_
  exact k m' d hP v F _ (Same.refl _) (R.mut hg e mo') rv
variable {st : Stmt} {K : PySem.W.Frag}
theorem s_mut (hf : MutV T r f) (hTK : T.K = K) (h : PS X st (tDrop (tBM K Ty r (tVar i) (rdA T xs)))) : PS X st (rdS T (aMut Ty i f xs)) := h.mono fun D' σ H h => by
  obtain ⟨G, F, δ, E, R, h, k⟩ := h
  unfold aMut at h
  split at h
  · rename_i l m hg
    exact rd_mut hf hTK R hg h.1 h.2 fun m' d hP v F' H' s R' _ => k.nx _ hP F' H' _ s R'
  · exact h.elim
theorem s_mut0 (hf : MutV T r f) (h : PS X st (tDrop (tBM0 K Ty r (tVar i)))) : PS X st (rdS T (aMut Ty i f aNil)) := h.mono fun D' σ H h => by
  obtain ⟨G, F, δ, E, R, h, k⟩ := h
  unfold aMut at h
  split at h
  · rename_i l m hg
    exact rd_mut0 hf R hg h.1 h.2 fun m' d hP v F' H' s R' _ => k.nx _ hP F' H' _ s R'
  · exact h.elim
theorem s_mutS (hf : MutV T r f) (hTK : T.K = K) (h : PS X st (tAsg (tBM K Ty r (tVar i) (rdA T xs)) (gName j))) : PS X st (rdS T (aMutS Ty j i f xs)) := h.mono fun D' σ H h => by
  obtain ⟨G, F, δ, E, R, h, k⟩ := h
  unfold aMutS at h
  split at h
  · rename_i l m hg
    exact rd_mut hf hTK R hg h.1 h.2 fun m' d hP v F' H' s R' rv => k.nx _ hP F' H' _ s (R'.put (a := .im d) ⟨v, rfl, rv⟩ fun _ _ e => nomatch e)
  · exact h.elim
theorem s_mutS0 (hf : MutV T r f) (h : PS X st (tAsg (tBM0 K Ty r (tVar i)) (gName j))) : PS X st (rdS T (aMutS Ty j i f aNil)) := h.mono fun D' σ H h => by
  obtain ⟨G, F, δ, E, R, h, k⟩ := h
  unfold aMutS at h
  split at h
  · rename_i l m hg
    exact rd_mut0 hf R hg h.1 h.2 fun m' d hP v F' H' s R' rv => k.nx _ hP F' H' _ s (R'.put (a := .im d) ⟨v, rfl, rv⟩ fun _ _ e => nomatch e)
  · exact h.elim
theorem m_append : MutV T rAppend mAppend := by
  intro G F H p m o xs ws P Q sm ho mo ra h k
  unfold mAppend at h
  split at h
  · rename_i ds d
    obtain ⟨vs, rfl, r⟩ := mo
    cases ra with
    | cons r2 t =>
      cases t
      exact ⟨p, vs, _, rfl, rfl, ho, by rw [r.length]; exact dSz_lt h.1, k _ _ h.2 _ _ ⟨_, rfl, r.snoc r2⟩ .non⟩
  · exact h.elim
theorem m_pop : MutV T rPop mPop := by
  intro G F H p m o xs ws P Q sm ho mo ra h k
  unfold mPop at h
  split at h
  · rename_i ds
    obtain ⟨vs, rfl, r⟩ := mo
    cases ra
    split at h
    · rename_i d hd
      obtain ⟨v, hv, rv⟩ := r.getD hd
      rw [← r.length] at hv
      exact ⟨p, vs, v, rfl, rfl, ho, hv, k _ _ h _ _ ⟨_, rfl, r.dropLast⟩ rv⟩
    · exact h.elim
  · exact h.elim
theorem m_popAt : MutV T rPopAt mPopAt := by
  intro G F H p m o xs ws P Q sm ho mo ra h k
  unfold mPopAt at h
  split at h
  · rename_i ds i
    obtain ⟨vs, rfl, r⟩ := mo
    obtain ⟨⟨h0, h1⟩, h⟩ := h
    split at h
    · rename_i d hd
      obtain ⟨v, hv, rv⟩ := r.getD hd
      have hl : i.toNat < vs.length := (List.getElem?_eq_some_iff.mp hv).1
      have hx : ixN vs.length i = some i.toNat := by
        unfold ixN
        rw [if_pos h0, if_pos (by omega)]
      cases ra with
      | cons r2 t =>
        cases t
        exact ⟨p, vs, i, i.toNat, v, rfl, by rw [rep_int r2], ho, by omega, h1, (ixN_seq hx).1, hv, k _ _ h _ _ ⟨_, rfl, r.eraseIdx _⟩ rv⟩
    · exact h.elim
  · exact h.elim
theorem m_reverse : MutV T rReverse mReverse := by
  intro G F H p m o xs ws P Q sm ho mo ra h k
  unfold mReverse at h
  split at h
  · rename_i ds
    obtain ⟨vs, rfl, r⟩ := mo
    cases ra
    exact ⟨p, vs, rfl, rfl, ho, k _ _ h _ _ ⟨_, rfl, r.reverse⟩ .non⟩
  · exact h.elim
theorem clW_rep {F' H' : Hp} {v : V} {w : W} {d : D} (g : Go F H F' H') (r : RepW T G H F' H' v w) (h : clW w = some d) : ∃ F2, Go F H F2 H' ∧ Rep T F2 v d := by
  obtain ⟨F2, g2, _, _, r2, _⟩ := RepW.arg g r
  unfold clW at h
  split at h
  · rename_i d' hd
    cases h
    rw [hd] at r2
    exact ⟨F2, g2, r2⟩
  · cases h
theorem s_setIx {x kk : AE} (h : PS X st (tAsg (rdE T x) (gSub (tVar i) (rdE T kk) rSetL))) : PS X st (rdS T (aSetIx i kk x)) := h.mono fun D' σ H h => by
  obtain ⟨G, F, δ, E, R, h, k⟩ := h
  unfold aSetIx at h
  split at h
  · rename_i l ds hg
    refine ⟨G, F, δ, _, R, h, fun w hw v F1 H1 g r1 => ?_⟩
    obtain ⟨p, vs, e, hp, rr, st⟩ := (R.go g).own hg
    refine ⟨.ref p, gs_some e, G, F1, δ, _, R.go g, hw, fun z hz kv F2 H2 g2 r2 => ?_⟩
    split at hz
    · rename_i d z hd
      split at hz
      · rename_i j hj
        obtain ⟨F3, g3, r3⟩ := clW_rep (g.trans g2) ((r1.go g2)) hd
        refine ⟨p, vs, z, j, rfl, rep_int r2, st _ _ g2, by rw [rr.length]; exact hj, ?_⟩
        have R3 := R.go g3
        refine k.nx _ hz F3 _ σ g3.f (R3.mut hg e ⟨_, rfl, Reps.set j ?_ r3⟩)
        obtain ⟨p', vs', e', hp', rr', _⟩ := R3.own hg
        rw [e] at e'
        cases e'
        rw [st _ _ g2] at hp'
        cases hp'
        exact rr'
      · exact hz.elim
    · exact hz.elim
  · exact h.elim
end
end Vl
namespace Vl
open PySem PySem.Spec PyProof.Rows L2

/-! ### what a def promises -/
/-- from the arguments to what is wanted of the answer -/
abbrev Ct := List W → (W → Prop) → Prop
def spC (T : Tb) (c : Ct) : Sp := fun vs H Q _ => ∃ G F ws P, Same F H ∧ RepAs T G F H vs ws ∧ c ws P ∧ ∀ w, P w → ∀ v F' H', Go F H F' H' → RepR T H F' H' v w → Q v H'
def aCall (c : Ct) (es : AA) : AE := fun δ Q => es δ fun ws => c ws Q
def avOf : W → AV
  | .cl d => .im d
  | .bw m => .bw m
  | .ow m => .bw m
  | .fr _ => .non
def startA (n : Nat) (ws : List W) : List AV := ws.map avOf ++ List.replicate (n - ws.length) .non
section
variable {T : Tb} {X : Cx} {G : Gx} {F F' H H' Hs : Hp} {v : V} {w : W}
theorem RepR.toW : ∀ {w : W}, RepR T H F' H' v w → RepW T G H F' H' v w
  | .cl d, h => h
  | .fr m, h => h
  | .bw m, h => h.elim
  | .ow m, h => h.elim
theorem RepAs.length : ∀ {vs : List V} {ws : List W}, RepAs T G F H vs ws → vs.length = ws.length
  | _, _, .nil => rfl
  | _, _, .cons _ t => by simp [RepAs.length t]
theorem RepAs.get : ∀ {vs : List V} {ws : List W} {i : Nat} {w : W}, RepAs T G F H vs ws → ws[i]? = some w → ∃ v, vs[i]? = some v ∧ RepA T G F H v w
  | _, _, _, _, .nil, h => by simp at h
  | _, _, 0, _, .cons r _, h => by simp at h; subst h; exact ⟨_, rfl, r⟩
  | _, _, i + 1, _, .cons _ t, h => by simpa using RepAs.get (i := i) t (by simpa using h)
theorem rd_call {c : Ct} {xs : AA} {E : XK} {σ : L2.St} {Q : VK} (h : rdE T (aCall c xs) σ H Q) : tCall (spC T c) [] E (rdA T xs) σ H Q := by
  obtain ⟨G, F, δ, P, R, h, k⟩ := h
  refine ⟨G, F, δ, _, R, h, fun ws hw vs F1 H1 g r => ?_⟩
  show spC T c (vs ++ []) H1 Q E
  rw [List.append_nil]
  exact ⟨G, F1, ws, P, g.ex, r, hw, fun w hP v F2 H2 g2 r2 => k w hP v F2 H2 (g.trans g2) ((RepR.toW r2).back g.h)⟩
variable {k : Nat} {f C : Addr} {fd : FuncData} {ps : List Str} {x : Str} {p pos apos : Pos} {e o : Expr} {es : List Expr} {c : Ct} {xs : AA}
theorem e_call (Fn : FnOk X.prog X.w X.K X.mg X.base CX0 k f fd ps (spC T c)) (hr : Room k X.A) (hg : Gl X x) (hm : X.mg x = some (.ref f)) (hk : PySem.W.keepIn X.K (.ref f) = true) (hb : Binds X.K fd ps [])
    (ha : PA X (e :: es) (rdA T xs)) (hdb : (x == ("__debug__" : Str)) = false := by decide) (he : starEach (e :: es) X.env = (false, eval e X.env) :: starEach es X.env := by rfl) (hpl : (backTo pos (starEach es X.env)).any (·.1) = false := by rfl) :
    PE X (.Call (.Name x p) (e :: es) [] pos) (rdE T (aCall c xs)) :=
  (pe_call Fn hr hg hm hk hb .nil (E := E0) pass0 ha hdb he hpl).mono fun _ _ _ h => rd_call h
/-- the slots at the start -/
theorem repS_start {N : Nat} {vs : List V} {ws : List W} (sm : Same F H) (r : RepAs T G F H vs ws) (hN : ws.length ≤ N) (Nm : List Str) (hNm : Nm.length = N) : RepS T ⟨H, F, []⟩ F H (L2.start Nm vs) (startA N ws) := by
  have hl := r.length
  have hst : ∀ i, gs (L2.start Nm vs) i = vs[i]? := fun i => by
    unfold gs L2.start
    rw [List.getD_eq_getElem?_getD]
    by_cases hi : i < vs.length
    · rw [List.getElem?_append_left (by simpa using hi), List.getElem?_map]
      cases vs[i]? <;> rfl
    · rw [List.getElem?_append_right (by simpa using hi), List.getElem?_replicate, List.getElem?_eq_none_iff.mpr (by omega)]
      split <;> rfl
  have hgt : ∀ i, gt (startA N ws) i = ((ws[i]?).map avOf).getD .non := fun i => by
    unfold gt startA
    rw [List.getD_eq_getElem?_getD]
    by_cases hi : i < ws.length
    · rw [List.getElem?_append_left (by simpa using hi), List.getElem?_map]
    · rw [List.getElem?_append_right (by simpa using hi), List.getElem?_replicate, List.getElem?_eq_none_iff.mpr (show ws.length ≤ i by omega)]
      split <;> rfl
  refine ⟨sm, fun a o h _ => h, fun a h => h, fun a h => by simp at h, Same.refl _, fun a _ => rfl, ?_, fun i => ?_, fun i j l l' m m' e1 => ?_⟩
  · unfold startA L2.start
    simp [hl, hNm]
  · rw [hst, hgt]
    cases e : ws[i]? with
    | none => trivial
    | some w =>
      obtain ⟨v, hv, rv⟩ := r.get e
      rw [hv]
      cases w with
      | cl d => exact ⟨v, rfl, rv⟩
      | bw m =>
        obtain ⟨p, rfl, _, _, o⟩ := rv
        obtain ⟨ob, e1, _⟩ := o.ob
        exact ⟨p, rfl, by simp, (fun z => by cases e1.symm.trans z), o⟩
      | ow m =>
        obtain ⟨p, rfl, o⟩ := rv
        obtain ⟨ob, e1, _⟩ := o.ob
        exact ⟨p, rfl, by simp, (fun z => by cases e1.symm.trans z), o⟩
      | fr m => exact rv.elim
  · rw [hgt] at e1
    cases e : ws[i]? with
    | none => rw [e] at e1; cases e1
    | some w => rw [e] at e1; cases w <;> cases e1
variable {P : Program} {wd : World} {K : PySem.W.Frag} {mg : Str → Option Value} {base : Heap}
/-- THE RULE for a def: its body's reading over data, and what it comes to -/
theorem fn_ok {y qual : Str} {st : Stmt} {N ps : List Str} {a : AS} (Fn : Fun K y qual st f fd) (S : FnScope N ps (defScope st)) (len : ∀ ws P, c ws P → ws.length = ps.length) (hN : ps.length ≤ N.length)
    (hd : ∀ (cdv : Value) (A : Around) (outer : List Env) (s : Shared) (H : Hp) (E : XK), Room k (A.deeper (envOfC qual (defScope st) s.heap.objs.size f cdv)) →
      PSs (cxOf CX0 P wd K mg base N qual (defScope st) f cdv A outer s H E).nox (defBody st) (rdS T a))
    (hw : ∀ ws P, c ws P → a { nx := fun _ => P (.cl .non), rt := fun w _ => P w } (startA N.length ws)) : FnOk P wd K mg base CX0 (k + 1) f fd ps (spC T c) := by
  refine Fn.ok S (fun vs H Q E h => ?_) (fun cdv A outer s H vs Q E hr h => ?_)
  · obtain ⟨G, F, ws, P, sm, r, hc, _⟩ := h
    rw [r.length]; exact len ws P hc
  · obtain ⟨G, F, ws, P, sm, r, hc, kk⟩ := h
    refine ⟨_, hd cdv A outer s H E hr, ?_⟩
    have R := repS_start sm r (by rw [len ws P hc]; exact hN) N rfl
    refine ⟨_, F, _, _, R, hw ws P hc, ?_⟩
    have go : ∀ {F' H' : Hp} {σ' : L2.St} {δ' : List AV}, RepS T ⟨H, F, []⟩ F' H' σ' δ' → Go F H F' H' := fun {F' H' σ' δ'} R' => ⟨fun a o e => R'.fr a o e (by simp), R'.f0, R'.ex, fun a h => R'.fn a h⟩
    exact ⟨fun δ' q F' H' σ' s R' => kk _ q .non F' H' (go R') .non, fun w δ' q v F' H' σ' s R' r' => kk w q v F' H' (go R') r', fun δ' q => q.elim, fun δ' q => q.elim⟩
end

/-! ### short forms -/
/-- a slot that is never changed by the def: what it gets is clean at once -/
def aSetC (i : Nat) (e : AE) : AS := fun E δ => e δ fun w => match clW w with
  | some d => E.nx (δ.set i (.im d))
  | none => False
section
variable {T : Tb} {X : Cx} {e a b : Expr} {x y : AE} {pos : Pos} {i : Nat} {G : Gx} {F H : Hp}
theorem rd_setC {D' : Ends} {σ : L2.St} {H : Hp} (h : rdS T (aSetC i x) D' σ H) : tAsg (rdE T x) (gName i) D' σ H := by
  obtain ⟨G, F, δ, E, R, h, k⟩ := h
  refine ⟨G, F, δ, _, R, h, fun w hw v F1 H1 g r => ?_⟩
  split at hw
  · rename_i d hd
    obtain ⟨F2, g2, r2⟩ := clW_rep g r hd
    exact k.nx _ hw F2 H1 _ g2.f ((R.go g2).put (a := .im d) ⟨v, rfl, r2⟩ fun _ _ e => nomatch e)
  · exact hw.elim
theorem s_setC {s : Str} {pos' : Pos} (hN : X.N.Nodup) (hi : X.N[i]? = some s) (hx : Loc X.env.scope s) (he : PE X e (rdE T x)) (hs : swapsWith e (some (.Name s pos')) pos.line X.env = pure false := by rfl) (hf : X.fn s = true ∨ X.env.scope.names.lookup s = some .local := by first | exact .inl rfl | exact .inr rfl | assumption) :
    PS X (.Assign [.Name s pos'] e pos) (rdS T (aSetC i x)) := (ps_set hN hi hx he hs hf).mono fun _ _ _ h => rd_setC h
theorem s_setCLc {ks : List Nat} {s : Str} {py : Pos} {elt tg iter : Expr} {ifs : List Expr} {scope : Scope} {own : List (Str × Nat)} {pos spos : Pos} {ai : AI} {ag : AG} {t : AT} {e : AE} (hc : X.calm = true) (hN : X.N.Nodup) (hy : X.N[i]? = some s) (hyl : X.env.scope.names.lookup s = some .local)
    (hsw : swapsWith (.ListComp elt [⟨tg, iter, ifs, 0⟩] scope pos) (some (.Name s py)) spos.line X.env = pure true) (hi : PI X tg iter (rdI T ai)) (ok : BlkOk X.N X.env.scope scope own) (hk : ∀ i ∈ ks, i ∈ own.map (·.2))
    (hg : ∀ (s : Shared) (H : Hp) (C : Addr) (cl : List (Str × Addr)) (fp : List Addr), PG (X.blk s H scope (compEnvC scope cl C X.env) fp) tg (rdG T ks ag)) (ht : ∀ (s : Shared) (H : Hp) (C : Addr) (cl : List (Str × Addr)) (fp : List Addr), PTs (X.blk s H scope (compEnvC scope cl C X.env) fp) ifs (rdT T t))
    (he : ∀ (s : Shared) (H : Hp) (C : Addr) (cl : List (Str × Addr)) (fp : List Addr), PE (X.blk s H scope (compEnvC scope cl C X.env) fp) elt (rdE T e)) (hs : ∀ x, foldedSetIterable iter X.env x = pure x := by intro _; rfl) :
    PS X (.Assign [.Name s py] (.ListComp elt [⟨tg, iter, ifs, 0⟩] scope pos) spos) (rdS T (aSetC i (aLc ai ag t e (own.map (·.2))))) := (ps_setLc hc hN hy hyl hsw hi ok hg ht he hs).mono fun D σ H h => by
  obtain ⟨G, F, δ, E, R, h, k⟩ := h
  refine rd_lc hk ⟨G, F, δ, _, R, h, fun w hw v F1 H1 g r => ?_⟩
  split at hw
  · rename_i d hd
    obtain ⟨F2, g2, r2⟩ := clW_rep g r hd
    exact k.nx _ hw F2 H1 _ g2.f ((R.go g2).put (a := .im d) ⟨v, rfl, r2⟩ fun _ _ e => nomatch e)
  · exact hw.elim
theorem e_ix (hTK : T.K = X.K) (ha : PE X a (rdE T x)) (hb : PE X b (rdE T y)) (hs : PlainIx b) : PE X (.Subscript a b pos) (rdE T (aBin dIx x y)) :=
  (pe_ix ix_seq ha hb hs).mono fun _ _ _ h => rd_bin (hTK ▸ b_ix) h
def dNeg : W → (W → Prop) → Prop := fun w Q => match w with
  | .cl (.int i) => Q (.cl (.int (-i)))
  | _ => False
theorem u_neg : Un1 T (rU fun i => .int (-i)) dNeg := by
  intro G F H F' H' x u P Q g r h k
  unfold dNeg at h
  split at h
  · exact ⟨_, rep_int r, k _ h _ _ _ g (.int _)⟩
  · exact h.elim
end
end Vl
namespace Vl
open PySem PySem.Spec PyProof.Rows L2

theorem _root_.L2.Room.u1 {k : Nat} {A : Around} (r : Room k A) : A.units + 1 < cLine := by have := r.un; omega
theorem _root_.L2.Room.u64 {k : Nat} {A : Around} (r : Room k A) : A.units + 64 < cLine := by have := r.un; omega
theorem _root_.L2.Room.u65 {k : Nat} {A : Around} (r : Room k A) : A.units + 65 < cLine := by have := r.un; omega

/-! ### lcm -/
def rLcm : List V → Hp → VK → Prop := fun vs H Q => ∃ a b : Int, vs = [.int a, .int b] ∧ (a.natAbs < 2 ^ 63 ∧ b.natAbs < 2 ^ 63) ∧ Q (.int ((Nat.lcm a.natAbs b.natAbs : Nat) : Int)) H
section
variable {X : Cx} {T : Tb}
theorem lcm_le (a b : Nat) : Nat.lcm a b ≤ a * b := by
  unfold Nat.lcm
  exact Nat.div_le_self _ _
theorem cr_lcm : CallR X (.builtin "math.lcm") rLcm := by
  intro pins s σ H vs us Q I r h
  obtain ⟨a, b, rfl, hs, q⟩ := h
  obtain ⟨t, u, rfl⟩ := Vals.int2 r
  have e : ((Nat.lcm 1 a.natAbs).lcm b.natAbs) = Nat.lcm a.natAbs b.natAbs := by rw [Nat.lcm_one_left]
  refine PySem.W.mg_lcm (by omega) (by omega) ?_ ?_
  · rw [e]
    have h1 := lcm_le a.natAbs b.natAbs
    have h2 : a.natAbs * b.natAbs < 2 ^ 126 := by
      have : (2:Nat) ^ 126 = 2 ^ 63 * 2 ^ 63 := by decide
      rw [this]
      exact Nat.mul_lt_mul'' hs.1 hs.2
    have h3 : (((Nat.lcm a.natAbs b.natAbs : Nat) : Int)).natAbs = Nat.lcm a.natAbs b.natAbs := rfl
    rw [h3]
    by_cases hz : Nat.lcm a.natAbs b.natAbs = 0
    · rw [hz]; decide
    · have : (Nat.lcm a.natAbs b.natAbs).log2 < 126 := (Nat.log2_lt hz).mpr (by omega)
      exact Nat.lt_trans this (by decide)
  · rw [e]
    exact ⟨.int _, H, I.tok _, ⟨_, rfl⟩, q⟩
end
def fLcm : List W → (W → Prop) → Prop := two fun w u Q => match w, u with
  | .cl (.int i), .cl (.int j) => (i.natAbs < 2 ^ 63 ∧ j.natAbs < 2 ^ 63) ∧ Q (.cl (.int ((Nat.lcm i.natAbs j.natAbs : Nat) : Int)))
  | _, _ => False
theorem c_lcm {T : Tb} : CallV T rLcm fLcm := by
  intro G F H F' H' xs ws P Q g r h k
  obtain ⟨x, y, w, u, rfl, rfl, rx, ry, h⟩ := two_inv h r
  split at h
  · exact ⟨_, _, by rw [rep_int rx, rep_int ry], h.1, k _ h.2 _ _ _ g (.int _)⟩
  · exact h.elim

/-! ### x += e -/
def aAugAdd (i : Nat) (e : AE) : AS := fun E δ => match gt δ i with
  | .im (.int a) => e δ fun w => match w with
    | .cl (.int b) => E.nx (δ.set i (.im (.int (a + b))))
    | _ => False
  | _ => False
def aAugSub (i : Nat) (e : AE) : AS := fun E δ => match gt δ i with
  | .im (.int a) => e δ fun w => match w with
    | .cl (.int b) => E.nx (δ.set i (.im (.int (a - b))))
    | _ => False
  | _ => False
section
variable {T : Tb} {X : Cx} {e : Expr} {x : AE} {pos pos' : Pos} {i : Nat} {y : Str}
theorem s_augAdd (hN : X.N.Nodup) (hi : X.N[i]? = some y) (hx : Loc X.env.scope y) (he : PE X e (rdE T x)) (hf : X.fn y = true ∨ X.env.scope.names.lookup y = some .local := by first | exact .inl rfl | exact .inr rfl | assumption) :
    PS X (.AugAssign (.Name y pos') .Add e pos) (rdS T (aAugAdd i x)) := (ps_aug hN hi hx he ip_add hf).mono fun D σ H h => by
  obtain ⟨G, F, δ, E, R, h, k⟩ := h
  unfold aAugAdd at h
  split at h
  · rename_i a hg
    have q := R.sl i
    rw [hg] at q
    obtain ⟨v, e, r⟩ := q
    cases rep_int r
    refine ⟨_, gs_some e, G, F, δ, _, R, h, fun w hw v F1 H1 g r => ?_⟩
    split at hw
    · rename_i b
      exact ⟨a, b, rfl, rep_int r, k.nx _ hw F1 H1 _ g.f ((R.go g).put (a := .im _) ⟨_, rfl, .int _⟩ fun _ _ e => nomatch e)⟩
    · exact hw.elim
  · exact h.elim
theorem s_augSub (hN : X.N.Nodup) (hi : X.N[i]? = some y) (hx : Loc X.env.scope y) (he : PE X e (rdE T x)) (hf : X.fn y = true ∨ X.env.scope.names.lookup y = some .local := by first | exact .inl rfl | exact .inr rfl | assumption) :
    PS X (.AugAssign (.Name y pos') .Sub e pos) (rdS T (aAugSub i x)) := (ps_aug hN hi hx he ip_sub hf).mono fun D σ H h => by
  obtain ⟨G, F, δ, E, R, h, k⟩ := h
  unfold aAugSub at h
  split at h
  · rename_i a hg
    have q := R.sl i
    rw [hg] at q
    obtain ⟨v, e, r⟩ := q
    cases rep_int r
    refine ⟨_, gs_some e, G, F, δ, _, R, h, fun w hw v F1 H1 g r => ?_⟩
    split at hw
    · rename_i b
      exact ⟨a, b, rfl, rep_int r, k.nx _ hw F1 H1 _ g.f ((R.go g).put (a := .im _) ⟨_, rfl, .int _⟩ fun _ _ e => nomatch e)⟩
    · exact hw.elim
  · exact h.elim
theorem e_gint {s : Str} {n : Int} {u : Tok} (hg : Gl X s) (hm : X.mg s = some (.int n u)) (hd : (s == ("__debug__" : Str)) = false := by decide) : PE X (.Name s pos) (rdE T (aC (.int n))) :=
  (pe_glob (v := .int n) hg hm ⟨_, rfl⟩ hd).mono fun _ _ _ h => rd_c (fun _ => .int n) h
end

/-! ### contracts by the number of arguments -/
def args1 (f : W → (W → Prop) → Prop) : Ct := fun ws Q => match ws with
  | [a] => f a Q
  | _ => False
def args2 (f : W → W → (W → Prop) → Prop) : Ct := fun ws Q => match ws with
  | [a, b] => f a b Q
  | _ => False
def args3 (f : W → W → W → (W → Prop) → Prop) : Ct := fun ws Q => match ws with
  | [a, b, c] => f a b c Q
  | _ => False
def args4 (f : W → W → W → W → (W → Prop) → Prop) : Ct := fun ws Q => match ws with
  | [a, b, c, d] => f a b c d Q
  | _ => False
theorem args1_inv {f : W → (W → Prop) → Prop} {ws : List W} {Q : W → Prop} (h : args1 f ws Q) : ∃ a, ws = [a] ∧ f a Q := by
  unfold args1 at h
  split at h
  · exact ⟨_, rfl, h⟩
  · exact h.elim
theorem args2_inv {f : W → W → (W → Prop) → Prop} {ws : List W} {Q : W → Prop} (h : args2 f ws Q) : ∃ a b, ws = [a, b] ∧ f a b Q := by
  unfold args2 at h
  split at h
  · exact ⟨_, _, rfl, h⟩
  · exact h.elim
theorem args3_inv {f : W → W → W → (W → Prop) → Prop} {ws : List W} {Q : W → Prop} (h : args3 f ws Q) : ∃ a b c, ws = [a, b, c] ∧ f a b c Q := by
  unfold args3 at h
  split at h
  · exact ⟨_, _, _, rfl, h⟩
  · exact h.elim
theorem args4_inv {f : W → W → W → W → (W → Prop) → Prop} {ws : List W} {Q : W → Prop} (h : args4 f ws Q) : ∃ a b c d, ws = [a, b, c, d] ∧ f a b c d Q := by
  unfold args4 at h
  split at h
  · exact ⟨_, _, _, _, rfl, h⟩
  · exact h.elim
end Vl
/-! Reading bodies over data: computing rules, loops, comprehensions, equality. -/
namespace Vl
open PySem PySem.Spec PyProof.Rows L2

theorem gt_z (a : AV) (l : List AV) : gt (a :: l) 0 = a := rfl
theorem gt_s (a : AV) (l : List AV) (n : Nat) : gt (a :: l) (n + 1) = gt l n := rfl

/-! ### loops -/
def Loop (g : AG) (body : AS) (E : AEnds) (δ : List AV) (ds : List D) : Prop := ∃ I : Nat → List AV → Prop, I 0 δ ∧
  (∀ i d δ', ds[i]? = some d → I i δ' → g d δ' fun δ2 => body { E with nx := I (i + 1), ct := I (i + 1), bk := E.nx } δ2) ∧ ∀ δ', I ds.length δ' → E.nx δ'
theorem aFor_eq (ai : AI) (g : AG) (body : AS) (E : AEnds) (δ : List AV) : aFor ai g body E δ = ai δ fun ds => Loop g body E δ ds := rfl
section
variable {α : Type} {g : AG} {body : AS} {E : AEnds} {δ : List AV}
/-- over data that stands for xs: P by what is left -/
theorem for_map (enc : α → D) (xs : List α) (P : List α → List AV → Prop) (h0 : P xs δ) (hs : ∀ x r δ', (∃ l, xs = l ++ x :: r) → P (x :: r) δ' → g (enc x) δ' fun δ2 => body { E with nx := P r, ct := P r, bk := E.nx } δ2) (he : ∀ δ', P [] δ' → E.nx δ') :
    Loop g body E δ (xs.map enc) := by
  refine ⟨fun i δ' => P (xs.drop i) δ', h0, fun i d δ' hd hp => ?_, fun δ' hp => ?_⟩
  · rw [List.getElem?_map] at hd
    cases e : xs[i]? with
    | none => rw [e] at hd; cases hd
    | some x =>
      rw [e] at hd
      cases hd
      obtain ⟨hl, he⟩ := List.getElem?_eq_some_iff.mp e
      have e2 : xs.drop i = x :: xs.drop (i + 1) := by rw [List.drop_eq_getElem_cons hl, he]
      have hp : P (xs.drop i) δ' := hp
      rw [e2] at hp
      exact hs x (xs.drop (i + 1)) δ' ⟨xs.take i, by rw [← e2, List.take_append_drop]⟩ hp
  · have hp : P (xs.drop (xs.map enc).length) δ' := hp
    rw [List.length_map, List.drop_length] at hp
    exact he δ' hp
/-- over data as it is -/
theorem for_lst (ds : List D) (P : List D → List AV → Prop) (h0 : P ds δ) (hs : ∀ x r δ', (∃ l, ds = l ++ x :: r) → P (x :: r) δ' → g x δ' fun δ2 => body { E with nx := P r, ct := P r, bk := E.nx } δ2) (he : ∀ δ', P [] δ' → E.nx δ') :
    Loop g body E δ ds := by
  have h := for_map (g := g) (body := body) (E := E) (δ := δ) id ds P h0 (fun x r δ' e hp => hs x r δ' e hp) he
  rw [List.map_id] at h
  exact h
theorem ups_get {lo : Int} {n i : Nat} {d : D} (h : (ups lo n)[i]? = some d) : i < n ∧ d = .int (lo + (i : Nat)) := by
  unfold ups at h
  rw [List.getElem?_map] at h
  by_cases hi : i < n
  · rw [List.getElem?_range hi] at h
    cases h
    exact ⟨hi, rfl⟩
  · rw [List.getElem?_eq_none_iff.mpr (by simpa using hi)] at h
    cases h
theorem ups_len {lo : Int} {n : Nat} : (ups lo n).length = n := by unfold ups; simp
/-- over lo, lo + 1, .. -/
theorem for_up {lo : Int} {n : Nat} (P : Nat → List AV → Prop) (h0 : P 0 δ) (hs : ∀ i δ', i < n → P i δ' → g (.int (lo + (i : Nat))) δ' fun δ2 => body { E with nx := P (i + 1), ct := P (i + 1), bk := E.nx } δ2) (he : ∀ δ', P n δ' → E.nx δ') :
    Loop g body E δ (ups lo n) :=
  ⟨P, h0, fun i d δ' hd hp => by obtain ⟨hi, rfl⟩ := ups_get hd; exact hs i δ' hi hp, fun δ' hp => by rw [ups_len] at hp; exact he δ' hp⟩
theorem while_by (P : Nat → List AV → Prop) (m : Nat) (h0 : P m δ) {t : AT} (hs : ∀ m δ', P m δ' → t δ' fun b => if b = true then body { E with nx := fun δ2 => ∃ m', m' < m ∧ P m' δ2, ct := fun δ2 => ∃ m', m' < m ∧ P m' δ2, bk := E.nx } δ' else E.nx δ') : aWhile t body E δ :=
  ⟨P, ⟨m, h0⟩, hs⟩
/-- an if that both ways walk on: the rest twice -/
theorem cut_self {s t : AS} (h : s { E with nx := t E } δ) : aCut s t E δ := ⟨_, h, fun _ q => q⟩
theorem cut_by {s t : AS} (M : List AV → Prop) (h : s { E with nx := M } δ) (k : ∀ δ', M δ' → t E δ') : aCut s t E δ := ⟨M, h, k⟩
end

/-! ### comprehensions -/
section
variable {α : Type} {g : AG} {t : AT} {e : AE} {δ : List AV} {Q : W → Prop}
/-- over data that stands for xs, every item kept or not by p, its data by f -/
theorem lc_map (enc : α → D) (p : α → Bool) (f : α → D) : ∀ (xs : List α) (acc : List D), acc.length + xs.length ≤ 1000000 →
    (∀ x ∈ xs, ∀ K : W → Prop, ∀ L : Prop, (p x = true → K (.cl (f x))) → (p x = false → L) → g (enc x) δ fun δ2 => t δ2 fun b => if b = true then e δ2 (fun w => K (argW w)) else L) →
    Q (.fr (.fl (acc ++ (xs.filter p).map f))) → lcGo g t e δ (xs.map enc) acc Q
  | [], acc, _, _, q => by simpa [lcGo] using q
  | x :: xs, acc, hl, h, q => by
    have hl' : acc.length + (xs.length + 1) ≤ 1000000 := by simpa using hl
    show lcGo g t e δ (enc x :: xs.map enc) acc Q
    unfold lcGo
    have hx := h x (List.mem_cons_self) (fun w => match w with
      | .cl y => acc.length < 1000000 ∧ lcGo g t e δ (xs.map enc) (acc ++ [y]) Q
      | _ => False) (lcGo g t e δ (xs.map enc) acc Q) (fun hp => ⟨by omega, ?_⟩) (fun hp => ?_)
    · exact hx
    · refine lc_map enc p f xs (acc ++ [f x]) (by rw [List.length_append, List.length_singleton]; omega) (fun y hy => h y (List.mem_cons_of_mem _ hy)) ?_
      rw [List.filter_cons, if_pos hp] at q
      simpa using q
    · refine lc_map enc p f xs acc (by omega) (fun y hy => h y (List.mem_cons_of_mem _ hy)) ?_
      rw [List.filter_cons, if_neg (by rw [hp]; decide)] at q
      exact q
/-- without a test -/
theorem lc_all (enc : α → D) (f : α → D) (xs : List α) (hl : xs.length ≤ 1000000)
    (h : ∀ x ∈ xs, ∀ K : W → Prop, K (.cl (f x)) → g (enc x) δ fun δ2 => e δ2 (fun w => K (argW w))) (q : Q (.fr (.fl (xs.map f)))) : lcGo g aYes e δ (xs.map enc) [] Q :=
  lc_map enc (fun _ => true) f xs [] (by simpa using hl) (fun x hx K L k _ => by
    have := h x hx K (k rfl)
    simpa [aYes] using this) (by
    have e : xs.filter (fun _ => true) = xs := List.filter_eq_self.mpr fun _ _ => rfl
    rw [e]
    exact q)
end

/-! ### equality -/
theorem pds_map (ds : List D) : pds ds = ds.map pd := by
  induction ds with
  | nil => rfl
  | cons d ds ih => rw [pds, ih]; rfl
theorem okD_int (i : Int) : okD (.int i) = true := rfl
theorem okD_bl (i : Bool) : okD (.bl i) = true := rfl
theorem okD_non : okD .non = true := rfl
theorem okD_str (i : Str) (h : PyData.strOk i = true) : okD (.str i) = true := by
  unfold okD SeqAt.shaped
  simp [pd, PyData.canLay0, PyData.depth, h]
theorem eqD_int (i j : Int) : eqD (.int i) (.int j) = decide (i = j) := by
  show (i == j) = decide (i = j)
  by_cases h : i = j <;> simp [h]
theorem eqD_bl (i j : Bool) : eqD (.bl i) (.bl j) = (i == j) := rfl
theorem eqD_str (i j : Str) : eqD (.str i) (.str j) = decide (i = j) := by
  show (i == j) = decide (i = j)
  by_cases h : i = j <;> simp [h]
theorem eqD_non : eqD .non .non = true := rfl
theorem eqD_non_int (i : Int) : eqD .non (.int i) = false := rfl
theorem eqD_int_non (i : Int) : eqD (.int i) .non = false := rfl
theorem eqD_non_tup (i : List D) : eqD .non (.tup i) = false := rfl
theorem eqD_tup_non (i : List D) : eqD (.tup i) .non = false := rfl
theorem eqD_non_lst (i : List D) : eqD .non (.lst i) = false := rfl
theorem eqD_lst_non (i : List D) : eqD (.lst i) .non = false := rfl
/-- depth at most n, no dict, no instance -/
def dep (n : Nat) (d : D) : Prop := (pd d).canLay0 = true ∧ (pd d).depth ≤ n
theorem dep_ok {n : Nat} {d : D} (h : dep n d) (hn : n ≤ 64) : okD d = true := by
  unfold okD SeqAt.shaped
  rw [h.1, Bool.true_and]
  exact decide_eq_true (Nat.le_trans h.2 hn)
theorem dep_mono {m n : Nat} {d : D} (h : dep m d) (hn : m ≤ n) : dep n d := ⟨h.1, Nat.le_trans h.2 hn⟩
theorem dep_int (n : Nat) (i : Int) : dep n (.int i) := ⟨rfl, Nat.zero_le _⟩
theorem dep_bl (n : Nat) (i : Bool) : dep n (.bl i) := ⟨rfl, Nat.zero_le _⟩
theorem dep_str (n : Nat) (i : Str) (h : PyData.strOk i = true) : dep n (.str i) := ⟨by simp [pd, PyData.canLay0, h], Nat.zero_le _⟩
theorem dep_non (n : Nat) : dep n .non := ⟨rfl, Nat.zero_le _⟩
theorem dep_all {n : Nat} : ∀ {ds : List D}, (∀ d ∈ ds, dep n d) → PyData.canLayAll0 (pds ds) = true ∧ PyData.depthAll (pds ds) ≤ n
  | [], _ => ⟨rfl, Nat.zero_le _⟩
  | d :: ds, h => by
    have h1 := h d List.mem_cons_self
    have h2 := dep_all (ds := ds) fun x hx => h x (List.mem_cons_of_mem _ hx)
    refine ⟨?_, ?_⟩
    · show ((pd d).canLay0 && PyData.canLayAll0 (pds ds)) = true
      rw [h1.1, h2.1]; rfl
    · show max (pd d).depth (PyData.depthAll (pds ds)) ≤ n
      exact Nat.max_le.mpr ⟨h1.2, h2.2⟩
theorem dep_lst {n : Nat} {ds : List D} (h : ∀ d ∈ ds, dep n d) : dep (n + 1) (.lst ds) := by
  have h2 := dep_all h
  refine ⟨?_, ?_⟩
  · simpa [pd, PyData.canLay0] using h2.1
  · show (PyData.list (pds ds)).depth ≤ n + 1
    have := h2.2
    simp only [PyData.depth]
    omega
theorem dep_tup {n : Nat} {ds : List D} (h : ∀ d ∈ ds, dep n d) : dep (n + 1) (.tup ds) := by
  have h2 := dep_all h
  refine ⟨?_, ?_⟩
  · simpa [pd, PyData.canLay0] using h2.1
  · show (PyData.tuple (pds ds)).depth ≤ n + 1
    have := h2.2
    simp only [PyData.depth]
    omega
/-- == of two lists, of two tuples, item by item -/
theorem eqv_all {α β : Type} {f : α → D} {g : β → D} : ∀ {xs : List α} {ys : List β}, PyData.eqvAll (pds (xs.map f)) (pds (ys.map g)) = true ↔ xs.length = ys.length ∧ ∀ (i : Nat) (x : α) (y : β), xs[i]? = some x → ys[i]? = some y → eqD (f x) (g y) = true
  | [], [] => by simp [pds, PyData.eqvAll]
  | [], y :: ys => by simp [pds, PyData.eqvAll]
  | x :: xs, [] => by simp [pds, PyData.eqvAll]
  | x :: xs, y :: ys => by
    have ih := eqv_all (f := f) (g := g) (xs := xs) (ys := ys)
    show (eqD (f x) (g y) && PyData.eqvAll (pds (xs.map f)) (pds (ys.map g))) = true ↔ _
    rw [Bool.and_eq_true, ih]
    constructor
    · rintro ⟨h1, h2, h3⟩
      refine ⟨by simp [h2], fun i a b ha hb => ?_⟩
      cases i with
      | zero => simp at ha hb; subst ha hb; exact h1
      | succ i => exact h3 i a b (by simpa using ha) (by simpa using hb)
    · rintro ⟨h1, h2⟩
      exact ⟨h2 0 x y rfl rfl, by simpa using h1, fun i a b ha hb => h2 (i + 1) a b (by simpa using ha) (by simpa using hb)⟩
theorem eqD_lst {α : Type} [DecidableEq α] {f : α → D} (hf : ∀ x y, eqD (f x) (f y) = decide (x = y)) (xs ys : List α) : eqD (.lst (xs.map f)) (.lst (ys.map f)) = decide (xs = ys) := by
  have h := eqv_all (f := f) (g := f) (xs := xs) (ys := ys)
  show PyData.eqvAll (pds (xs.map f)) (pds (ys.map f)) = _
  rw [Bool.eq_iff_iff, h, decide_eq_true_eq]
  constructor
  · rintro ⟨h1, h2⟩
    apply List.ext_getElem?
    intro i
    cases e : xs[i]? with
    | none =>
      have := List.getElem?_eq_none_iff.mp e
      rw [List.getElem?_eq_none_iff.mpr (by omega)]
    | some x =>
      have hi := (List.getElem?_eq_some_iff.mp e).1
      have e2 : ys[i]? = some ys[i] := List.getElem?_eq_getElem (by omega)
      have := h2 i x _ e e2
      rw [hf, decide_eq_true_eq] at this
      rw [e2, this]
  · rintro rfl
    refine ⟨rfl, fun i x y hx hy => ?_⟩
    rw [hx] at hy
    cases hy
    rw [hf]; simp
theorem eqD_ints (xs ys : List Int) : eqD (.lst (xs.map .int)) (.lst (ys.map .int)) = decide (xs = ys) := eqD_lst eqD_int xs ys
theorem eqD_lst_refl (d : D) : PyData.canLay0 (pd d) = true → eqD d d = true := fun h => SeqAt.eqv_refl _ h

/-! ### computing rules -/
theorem dSub_eq (x y : W) (Q : W → Prop) : dSub x y Q = dI0 (fun i j => .int (i - j)) x y Q := rfl
theorem dDiv_eq (x y : W) (Q : W → Prop) : dDiv x y Q = dI (fun _ j => 0 < j ∧ j < 1073741824) (fun i j => .int (i / j)) x y Q := rfl
theorem dMod_eq (x y : W) (Q : W → Prop) : dMod x y Q = dI (fun _ j => 0 < j) (fun i j => .int (i % j)) x y Q := rfl
theorem dShl_eq (x y : W) (Q : W → Prop) : dShl x y Q = dI (fun i j => 0 ≤ j ∧ j ≤ 1000000 ∧ i.natAbs < 2 ^ 64) (fun i j => .int (i * 2 ^ j.toNat)) x y Q := rfl
theorem dPow_eq (x y : W) (Q : W → Prop) : dPow x y Q = dI (fun i j => 0 ≤ j ∧ j ≤ 1000000 ∧ i.natAbs < 2 ^ 64) (fun i j => .int (i ^ j.toNat)) x y Q := rfl
theorem dLt_eq (x y : W) (Q : W → Prop) : dLt x y Q = dI0 (fun i j => .bl (decide (i < j))) x y Q := rfl
theorem dLe_eq (x y : W) (Q : W → Prop) : dLe x y Q = dI0 (fun i j => .bl (decide (i ≤ j))) x y Q := rfl
theorem dGt_eq (x y : W) (Q : W → Prop) : dGt x y Q = dI0 (fun i j => .bl (decide (j < i))) x y Q := rfl
theorem dGe_eq (x y : W) (Q : W → Prop) : dGe x y Q = dI0 (fun i j => .bl (decide (j ≤ i))) x y Q := rfl
theorem fLen_lst (ds : List D) (Q : W → Prop) : fLen1 [.cl (.lst ds)] Q = Q (.cl (.int ds.length)) := rfl
theorem fLen_tup (ds : List D) (Q : W → Prop) : fLen1 [.cl (.tup ds)] Q = Q (.cl (.int ds.length)) := rfl
theorem fLen_ow (ds : List D) (Q : W → Prop) : fLen1 [.ow (.fl ds)] Q = Q (.cl (.int ds.length)) := rfl
theorem fLen_bw (ds : List D) (Q : W → Prop) : fLen1 [.bw (.fl ds)] Q = Q (.cl (.int ds.length)) := rfl
theorem fLen_scr (ds : List Int) (Q : W → Prop) : fLen1 [.cl (.scr ds)] Q = Q (.cl (.int ds.length)) := by
  show Q (.cl (.int ((ds.map D.int).length : Nat))) = _
  rw [List.length_map]
theorem fLen_str (z : Str) (Q : W → Prop) : fLen1 [.cl (.str z)] Q = (z.length ≤ 1000000 ∧ Q (.cl (.int z.length))) := rfl
theorem fInt_int (i : Int) (Q : W → Prop) : fInt [.cl (.int i)] Q = Q (.cl (.int i)) := rfl
theorem fInt_bl (b : Bool) (Q : W → Prop) : fInt [.cl (.bl b)] Q = Q (.cl (.int (if b then 1 else 0))) := rfl
theorem fAbs_int (i : Int) (Q : W → Prop) : fAbs [.cl (.int i)] Q = Q (.cl (.int (if i < 0 then -i else i))) := rfl
theorem fMax_int (i j : Int) (Q : W → Prop) : fMax2 [.cl (.int i), .cl (.int j)] Q = Q (.cl (.int (if j > i then j else i))) := rfl
theorem fMin_int (i j : Int) (Q : W → Prop) : fMin2 [.cl (.int i), .cl (.int j)] Q = Q (.cl (.int (if j < i then j else i))) := rfl
theorem fGcd_int (i j : Int) (Q : W → Prop) : fGcd [.cl (.int i), .cl (.int j)] Q = Q (.cl (.int ((Nat.gcd i.natAbs j.natAbs : Nat) : Int))) := rfl
theorem fLcm_int (i j : Int) (Q : W → Prop) : fLcm [.cl (.int i), .cl (.int j)] Q = ((i.natAbs < 2 ^ 63 ∧ j.natAbs < 2 ^ 63) ∧ Q (.cl (.int ((Nat.lcm i.natAbs j.natAbs : Nat) : Int)))) := rfl
theorem fList_lst (ds : List D) (Q : W → Prop) : fList [.cl (.lst ds)] Q = Q (.fr (.fl ds)) := rfl
theorem fList_tup (ds : List D) (Q : W → Prop) : fList [.cl (.tup ds)] Q = Q (.fr (.fl ds)) := rfl
theorem fList_ow (ds : List D) (Q : W → Prop) : fList [.ow (.fl ds)] Q = Q (.fr (.fl ds)) := rfl
theorem fList_bw (ds : List D) (Q : W → Prop) : fList [.bw (.fl ds)] Q = Q (.fr (.fl ds)) := rfl
theorem fList_scr (ds : List Int) (Q : W → Prop) : fList [.cl (.scr ds)] Q = Q (.fr (.fl (ds.map .int))) := rfl
theorem snoc_map {α : Type} (f : α → D) (xs : List α) (x : α) : xs.map f ++ [f x] = (xs ++ [x]).map f := by rw [List.map_append]; rfl
theorem snoc_int (xs : List Int) (x : Int) : xs.map D.int ++ [D.int x] = (xs ++ [x]).map D.int := snoc_map D.int xs x
theorem ixD_0 {α : Type} (a : α) (r : List α) : ixD (a :: r) 0 = some a := rfl
theorem ixD_1 {α : Type} (a b : α) (r : List α) : ixD (a :: b :: r) 1 = some b := rfl
theorem ixD_2 {α : Type} (a b c : α) (r : List α) : ixD (a :: b :: c :: r) 2 = some c := rfl
theorem ixD_3 {α : Type} (a b c d : α) (r : List α) : ixD (a :: b :: c :: d :: r) 3 = some d := rfl
theorem ixD_4 {α : Type} (a b c d e : α) (r : List α) : ixD (a :: b :: c :: d :: e :: r) 4 = some e := rfl
theorem ixD_5 {α : Type} (a b c d e f : α) (r : List α) : ixD (a :: b :: c :: d :: e :: f :: r) 5 = some f := rfl
theorem ixD_6 {α : Type} (a b c d e f g : α) (r : List α) : ixD (a :: b :: c :: d :: e :: f :: g :: r) 6 = some g := rfl
theorem ixD_7 {α : Type} (a b c d e f g h : α) (r : List α) : ixD (a :: b :: c :: d :: e :: f :: g :: h :: r) 7 = some h := rfl
theorem ixD_8 {α : Type} (a b c d e f g h i : α) (r : List α) : ixD (a :: b :: c :: d :: e :: f :: g :: h :: i :: r) 8 = some i := rfl
theorem ixD_9 {α : Type} (a b c d e f g h i j : α) (r : List α) : ixD (a :: b :: c :: d :: e :: f :: g :: h :: i :: j :: r) 9 = some j := rfl
theorem ixD_10 {α : Type} (a b c d e f g h i j k : α) (r : List α) : ixD (a :: b :: c :: d :: e :: f :: g :: h :: i :: j :: k :: r) 10 = some k := rfl
theorem ixD_11 {α : Type} (a b c d e f g h i j k l : α) (r : List α) : ixD (a :: b :: c :: d :: e :: f :: g :: h :: i :: j :: k :: l :: r) 11 = some l := rfl
theorem len_1 {α : Type} {xs : List α} (h : xs.length = 1) : ∃ a, xs = [a] := match xs, h with
  | [a], _ => ⟨a, rfl⟩
theorem len_2 {α : Type} {xs : List α} (h : xs.length = 2) : ∃ a b, xs = [a, b] := match xs, h with
  | [a, b], _ => ⟨a, b, rfl⟩
theorem len_3 {α : Type} {xs : List α} (h : xs.length = 3) : ∃ a b c, xs = [a, b, c] := match xs, h with
  | [a, b, c], _ => ⟨a, b, c, rfl⟩
theorem len_4 {α : Type} {xs : List α} (h : xs.length = 4) : ∃ a b c d, xs = [a, b, c, d] := match xs, h with
  | [a, b, c, d], _ => ⟨a, b, c, d, rfl⟩
theorem len_5 {α : Type} {xs : List α} (h : xs.length = 5) : ∃ a b c d e, xs = [a, b, c, d, e] := match xs, h with
  | [a, b, c, d, e], _ => ⟨a, b, c, d, e, rfl⟩
theorem len_6 {α : Type} {xs : List α} (h : xs.length = 6) : ∃ a b c d e f, xs = [a, b, c, d, e, f] := match xs, h with
  | [a, b, c, d, e, f], _ => ⟨a, b, c, d, e, f, rfl⟩
theorem len_7 {α : Type} {xs : List α} (h : xs.length = 7) : ∃ a b c d e f g, xs = [a, b, c, d, e, f, g] := match xs, h with
  | [a, b, c, d, e, f, g], _ => ⟨a, b, c, d, e, f, g, rfl⟩
theorem len_8 {α : Type} {xs : List α} (h : xs.length = 8) : ∃ a b c d e f g h, xs = [a, b, c, d, e, f, g, h] := match xs, h with
  | [a, b, c, d, e, f, g, h], _ => ⟨a, b, c, d, e, f, g, h, rfl⟩
theorem len_9 {α : Type} {xs : List α} (h : xs.length = 9) : ∃ a b c d e f g h i, xs = [a, b, c, d, e, f, g, h, i] := match xs, h with
  | [a, b, c, d, e, f, g, h, i], _ => ⟨a, b, c, d, e, f, g, h, i, rfl⟩
theorem len_10 {α : Type} {xs : List α} (h : xs.length = 10) : ∃ a b c d e f g h i j, xs = [a, b, c, d, e, f, g, h, i, j] := match xs, h with
  | [a, b, c, d, e, f, g, h, i, j], _ => ⟨a, b, c, d, e, f, g, h, i, j, rfl⟩
theorem len_11 {α : Type} {xs : List α} (h : xs.length = 11) : ∃ a b c d e f g h i j k, xs = [a, b, c, d, e, f, g, h, i, j, k] := match xs, h with
  | [a, b, c, d, e, f, g, h, i, j, k], _ => ⟨a, b, c, d, e, f, g, h, i, j, k, rfl⟩
theorem len_12 {α : Type} {xs : List α} (h : xs.length = 12) : ∃ a b c d e f g h i j k l, xs = [a, b, c, d, e, f, g, h, i, j, k, l] := match xs, h with
  | [a, b, c, d, e, f, g, h, i, j, k, l], _ => ⟨a, b, c, d, e, f, g, h, i, j, k, l, rfl⟩
theorem cutD_map {α : Type} (f : α → D) (xs : List α) (lo hi : Option Int) : cutD (xs.map f) lo hi = ((xs.drop (HT.sIx xs.length 0 lo)).take (HT.sIx xs.length xs.length hi - HT.sIx xs.length 0 lo)).map f := by
  unfold cutD
  rw [List.length_map, List.map_take, List.map_drop]
def cutL {α : Type} (xs : List α) (lo hi : Option Int) : List α := (xs.drop (HT.sIx xs.length 0 lo)).take (HT.sIx xs.length xs.length hi - HT.sIx xs.length 0 lo)
theorem cutD_cutL {α : Type} (f : α → D) (xs : List α) (lo hi : Option Int) : cutD (xs.map f) lo hi = (cutL xs lo hi).map f := cutD_map f xs lo hi
theorem cutL_len {α : Type} (xs : List α) (lo hi : Option Int) : (cutL xs lo hi).length ≤ xs.length := by
  unfold cutL
  rw [List.length_take, List.length_drop]
  omega
theorem cutL_mem {α : Type} {xs : List α} {lo hi : Option Int} {x : α} (h : x ∈ cutL xs lo hi) : x ∈ xs := List.mem_of_mem_drop (List.mem_of_mem_take h)
/-- the answers of the items are not told, but that each is one of S -/
theorem lc_any {α β : Type} {g : AG} {e : AE} {δ : List AV} {Q : W → Prop} (enc : α → D) (dec : β → D) (S : β → Prop) : ∀ (xs : List α) (acc : List β), acc.length + xs.length ≤ 1000000 → (∀ b ∈ acc, S b) →
    (∀ x ∈ xs, ∀ K : W → Prop, (∀ b, S b → K (.cl (dec b))) → g (enc x) δ fun δ2 => e δ2 fun w => K (argW w)) →
    (∀ bs : List β, bs.length = acc.length + xs.length → (∀ b ∈ bs, S b) → Q (.fr (.fl (bs.map dec)))) → lcGo g aYes e δ (xs.map enc) (acc.map dec) Q
  | [], acc, _, hS, _, q => by
    show Q (.fr (.fl (acc.map dec)))
    exact q acc (by simp) hS
  | x :: xs, acc, hl, hS, h, q => by
    have hl' : acc.length + (xs.length + 1) ≤ 1000000 := by simpa using hl
    show lcGo g aYes e δ (enc x :: xs.map enc) (acc.map dec) Q
    unfold lcGo
    refine h x List.mem_cons_self (fun w => match w with
      | .cl y => (acc.map dec).length < 1000000 ∧ lcGo g aYes e δ (xs.map enc) (acc.map dec ++ [y]) Q
      | _ => False) fun b hb => ⟨by rw [List.length_map]; omega, ?_⟩
    rw [snoc_map]
    refine lc_any enc dec S xs (acc ++ [b]) (by rw [List.length_append, List.length_singleton]; omega) (fun c hc => ?_) (fun y hy => h y (List.mem_cons_of_mem _ hy)) fun bs hl hs => q bs (by rw [hl]; simp; omega) hs
    rcases List.mem_append.mp hc with hc | hc
    · exact hS c hc
    · rw [List.mem_singleton.mp hc]; exact hb
theorem isi_bl_bool (b : Bool) : isiF (.bl b) "bool" = some true := rfl
theorem isi_bl_int (b : Bool) : isiF (.bl b) "int" = some true := rfl
theorem isi_int_int (b : Int) : isiF (.int b) "int" = some true := rfl
theorem isi_int_bool (b : Int) : isiF (.int b) "bool" = some false := rfl
theorem isi_non_int  : isiF (.non) "int" = some false := rfl
theorem isi_non_bool  : isiF (.non) "bool" = some false := rfl
theorem isi_lst_list (b : List D) : isiF (.lst b) "list" = some true := rfl
theorem isi_tup_list (b : List D) : isiF (.tup b) "list" = some false := rfl
theorem isi_tup_tuple (b : List D) : isiF (.tup b) "tuple" = some true := rfl
theorem isi_non_tuple  : isiF (.non) "tuple" = some false := rfl
theorem isi_non_list  : isiF (.non) "list" = some false := rfl
theorem isi_str_str (b : Str) : isiF (.str b) "str" = some true := rfl
theorem isi_lst_bool (b : List D) : isiF (.lst b) "bool" = some false := rfl
theorem isi_str_bool (b : Str) : isiF (.str b) "bool" = some false := rfl
theorem isi_tup_bool (b : List D) : isiF (.tup b) "bool" = some false := rfl
theorem inD_bls {α : Type} (f : α → Bool) (xs : List α) : inD (.bl true) (xs.map fun x => .bl (f x)) = xs.any f := by
  unfold inD
  rw [List.any_map]
  congr 1
  funext x
  show (f x == true) = f x
  cases f x <;> rfl
theorem okD_lst {n : Nat} {ds : List D} (h : ∀ d ∈ ds, dep n d) (hn : n ≤ 63) : okD (.lst ds) = true := dep_ok (dep_lst h) (by omega)
theorem okD_tup {n : Nat} {ds : List D} (h : ∀ d ∈ ds, dep n d) (hn : n ≤ 63) : okD (.tup ds) = true := dep_ok (dep_tup h) (by omega)
theorem okD_map {α : Type} {n : Nat} {f : α → D} {xs : List α} (h : ∀ x, dep n (f x)) (hn : n ≤ 63) : okD (.lst (xs.map f)) = true := okD_lst (n := n) (fun d hd => by
  obtain ⟨x, _, rfl⟩ := List.mem_map.mp hd
  exact h x) hn
end Vl
/-! Further rules: max(xs, default=d). -/
namespace Vl
open PySem PySem.Spec PyProof.Rows L2

/-- the greatest of some ints, or d -/
def maxOr (d : Int) : List Int → Int
  | [] => d
  | n :: ns => ns.foldl (fun a y => if decide (a < y) = true then y else a) n
theorem maxOr_foldl (ns : List Int) : ∀ n : Int, n ≤ ns.foldl (fun a y => if decide (a < y) = true then y else a) n ∧ (∀ y ∈ ns, y ≤ ns.foldl (fun a y => if decide (a < y) = true then y else a) n) ∧
    (ns.foldl (fun a y => if decide (a < y) = true then y else a) n = n ∨ ns.foldl (fun a y => if decide (a < y) = true then y else a) n ∈ ns) := by
  induction ns with
  | nil => intro n; exact ⟨Int.le_refl _, (fun _ h => nomatch h), .inl rfl⟩
  | cons m ns ih =>
    intro n
    rw [List.foldl_cons]
    by_cases h : n < m
    · rw [decide_eq_true h, if_pos rfl]
      obtain ⟨h1, h2, h3⟩ := ih m
      refine ⟨by omega, fun y hy => ?_, ?_⟩
      · rcases List.mem_cons.mp hy with rfl | hy
        · exact h1
        · exact h2 y hy
      · rcases h3 with h3 | h3
        · right; rw [h3]; exact List.mem_cons_self
        · right; exact List.mem_cons_of_mem _ h3
    · rw [decide_eq_false h, if_neg (by decide)]
      obtain ⟨h1, h2, h3⟩ := ih n
      refine ⟨h1, fun y hy => ?_, ?_⟩
      · rcases List.mem_cons.mp hy with rfl | hy
        · omega
        · exact h2 y hy
      · rcases h3 with h3 | h3
        · left; exact h3
        · right; exact List.mem_cons_of_mem _ h3
theorem maxOr_le {d : Int} {ns : List Int} {y : Int} (h : y ∈ ns) : y ≤ maxOr d ns := by
  cases ns with
  | nil => nomatch h
  | cons n ns =>
    obtain ⟨h1, h2, _⟩ := maxOr_foldl ns n
    rcases List.mem_cons.mp h with rfl | h
    · exact h1
    · exact h2 y h
theorem maxOr_mem {d : Int} {ns : List Int} (h : ns ≠ []) : maxOr d ns ∈ ns := by
  cases ns with
  | nil => exact absurd rfl h
  | cons n ns =>
    obtain ⟨_, _, h3⟩ := maxOr_foldl ns n
    rcases h3 with h3 | h3
    · show List.foldl _ n ns ∈ n :: ns
      rw [h3]; exact List.mem_cons_self
    · exact List.mem_cons_of_mem _ h3
def rMaxD (K : PySem.W.Frag) : List V → List V → Hp → VK → Prop := fun vs zs H Q => ∃ (a : Addr) (ns : List Int) (d : Int), vs = [.ref a] ∧ zs = [.int d] ∧ SqL K H a (ns.map V.int) ∧ Q (.int (maxOr d ns)) H
section
variable {X : Cx} {T : Tb}
theorem cr_maxD (hc : X.calm = true) (hu : X.A.units + 1 < cLine) : CallRK X (.builtin "max") [Str.ofString "default"] (rMaxD X.K) := by
  intro pins s σ H vs zs us ws Q I r rz h
  obtain ⟨a, ns, d, rfl, rfl, hs, q⟩ := h
  obtain rfl := Vals.ref1 r
  obtain ⟨w1, rfl, e1⟩ := vals1 rz
  obtain ⟨t, rfl⟩ := e1
  obtain ⟨its, rv, hl, hz⟩ := I.list hs
  refine PySem.W.max_list_datum_default (α := Int) (I.ok.hd hc) hl.isList (PySem.W.HoldAll.of_ints rv.ints) (by exact hu) (fun e h' tk k => ?_) (fun y ys i v h' tk e hi hv k => ?_)
  · subst e
    exact ⟨.int d, H, I.kept k, ⟨t, rfl⟩, q⟩
  · subst e
    obtain ⟨as, hr⟩ := hv
    have hr : Reads h' v (.int (PySem.W.maxOf y ys)) as := hr
    cases hr with
    | int _ t2 => exact ⟨.int _, H, I.kept k, ⟨t2, rfl⟩, q⟩
end
/-- max(e, default=d) -/
def aMaxD (a : AE) (d : Int) : AE := fun δ Q => a δ fun w => ∃ ns : List Int, lstC (argW w) = some (ns.map .int) ∧ Q (.cl (.int (maxOr d ns)))
section
variable {T : Tb} {X : Cx} {e : Expr} {x : AE} {p pos p2 kp : Pos} {d : Int} {j : Nat} {s : Str}
theorem e_maxD (hc : X.calm = true) (hu : X.A.units + 1 < cLine) (hTK : T.K = X.K) (hg : Gl X "max") (hm : X.mg "max" = none) (ha : PE X e (rdE T x)) (hs : starEach [e] X.env = (false, eval e X.env) :: starEach [] X.env := by rfl)
    (he : backTo pos (starEach [e] X.env) = (false, eval e X.env) :: backTo pos (starEach [] X.env) := by rfl) (hpl : (backTo pos (starEach [e] X.env)).any (·.1) = false := by rfl)
    (hall : (backToKw pos (keywordEach [⟨some "default", .Constant (.int d) j p2, kp⟩] X.env)).all (·.1.isSome) = true := by rfl) (hnone : (backToKw pos (keywordEach [⟨some "default", .Constant (.int d) j p2, kp⟩] X.env)).any (·.1.isNone) = false := by rfl)
    (hks : (backToKw pos (keywordEach [⟨some "default", .Constant (.int d) j p2, kp⟩] X.env)).filterMap (·.1) = [Str.ofString "default"] := by rfl) :
    PE X (.Call (.Name "max" p) [e] [⟨some "default", .Constant (.int d) j p2, kp⟩] pos) (rdE T (aMaxD x d)) := by
  refine (pe_callBK (cr_maxD hc hu) hg hm (by decide +kernel) (pa_cons ha pa_nil hs) (pk_cons pe_int pk_nil) (by decide) (by decide) he hpl hall hnone hks).mono fun σ H Q h => ?_
  obtain ⟨G, F, δ, P, R, h, k⟩ := h
  refine ⟨G, F, δ, _, R, h, fun w hw v F1 H1 g r => ?_⟩
  obtain ⟨ns, hn, q⟩ := hw
  obtain ⟨F2, g2, _, _, r2, _⟩ := RepW.arg g r
  obtain ⟨a, vs, rfl, hs, rr⟩ := r2.lst g2.ex hn
  rw [reps_ints rr] at hs
  exact ⟨a, ns, d, rfl, rfl, hTK ▸ hs, k _ q _ F2 H1 g2 (.int _)⟩
end
/-- max of one list of ints -/
def fMax1 : List W → (W → Prop) → Prop := one fun w Q => ∃ ns : List Int, lstC w = some (ns.map .int) ∧ 0 < ns.length ∧ ∀ m, m ∈ ns → (∀ y ∈ ns, y ≤ m) → Q (.cl (.int m))
theorem c_max1 {T : Tb} : CallV T (rMax T.K) fMax1 := by
  intro G F H F' H' xs ws P Q g r h k
  obtain ⟨x, w, rfl, rfl, rx, h⟩ := one_inv h r
  obtain ⟨ns, es, hne, q⟩ := h
  obtain ⟨p, vs, rfl, hs, rr⟩ := rx.lst g.ex es
  rw [reps_ints rr] at hs
  exact ⟨p, ns, rfl, hs, hne, fun m h1 h2 => k _ (q m h1 h2) _ _ _ g (.int _)⟩
theorem fMax1_eq (w : W) (Q : W → Prop) : fMax1 [w] Q = ∃ ns : List Int, lstC w = some (ns.map .int) ∧ 0 < ns.length ∧ ∀ m, m ∈ ns → (∀ y ∈ ns, y ≤ m) → Q (.cl (.int m)) := rfl
end Vl
/-! Own classes whose objects are made and read, never changed: fields, methods, C(..). -/
namespace Vl
open PySem PySem.Spec PyProof.Rows L2

theorem lookup_zip {β : Type} : ∀ {fs : List Str} {vs : List β} {j : Nat} {f : Str} {v : β}, fs.Nodup → fs[j]? = some f → vs[j]? = some v → (fs.zip vs).lookup f = some v
  | [], _, _, _, _, _, h, _ => by simp at h
  | _ :: _, [], _, _, _, _, _, h => by simp at h
  | g :: fs, w :: vs, 0, f, v, _, h1, h2 => by
    simp at h1 h2
    subst h1; subst h2
    simp [List.lookup]
  | g :: fs, w :: vs, j + 1, f, v, hn, h1, h2 => by
    have hf : f ∈ fs := List.mem_of_getElem? (by simpa using h1)
    have ne : (f == g) = false := beq_eq_false_iff_ne.mpr fun e => (List.nodup_cons.mp hn).1 (e ▸ hf)
    rw [List.zip_cons_cons, List.lookup_cons, ne]
    exact lookup_zip (List.nodup_cons.mp hn).2 (by simpa using h1) (by simpa using h2)
theorem lookup_zip_none {β : Type} : ∀ {fs : List Str} {vs : List β} {f : Str}, f ∉ fs → (fs.zip vs).lookup f = none
  | [], _, _, _ => rfl
  | _ :: _, [], _, _ => rfl
  | g :: fs, w :: vs, f, h => by
    have ne : (f == g) = false := beq_eq_false_iff_ne.mpr fun e => h (e ▸ List.mem_cons_self)
    rw [List.zip_cons_cons, List.lookup_cons, ne]
    exact lookup_zip_none fun q => h (List.mem_cons_of_mem _ q)
theorem putF_new {f : Str} {v : V} : ∀ {fs : List (Str × V)}, f ∉ fs.map (·.1) → putF f v fs = fs ++ [(f, v)]
  | [], _ => rfl
  | (g, x) :: r, h => by
    have ne : g ≠ f := fun e => h (by rw [e]; exact List.mem_cons_self)
    show (if g = f then (g, v) :: r else (g, x) :: putF f v r) = _
    rw [if_neg ne, putF_new fun q => h (List.mem_cons_of_mem _ q)]
    rfl
theorem putF_zip {fs : List Str} {vs : List V} {f : Str} {v : V} (hn : fs.Nodup) (hj : fs[vs.length]? = some f) : putF f v ((fs.take vs.length).zip vs) = (fs.take (vs ++ [v]).length).zip (vs ++ [v]) := by
  have hl : vs.length < fs.length := by
    apply Classical.byContradiction
    intro q
    rw [List.getElem?_eq_none_iff.mpr (by omega)] at hj
    cases hj
  have e1 : (vs ++ [v]).length = vs.length + 1 := by simp
  have e2 : fs.take (vs.length + 1) = fs.take vs.length ++ [f] := by rw [List.take_add_one, hj]; rfl
  have hlt : (fs.take vs.length).length = vs.length := by rw [List.length_take]; omega
  rw [e1, e2, List.zip_append hlt, putF_new]
  · rfl
  · rw [List.map_fst_zip (by omega)]
    intro q
    have h2 : (fs.take vs.length ++ [f]).Nodup := by rw [← e2]; exact List.Nodup.sublist (List.take_sublist _ _) hn
    rw [List.nodup_append] at h2
    exact h2.2.2 f q f (by simp) rfl

/-- e.f -/
def aFld (c j : Nat) (e : AE) : AE := fun δ Q => e δ fun w => match w with
  | .cl (.ins c' ds) => c' = c ∧ match ds[j]? with
    | some d => Q (.cl d)
    | none => False
  | _ => False
/-- e.m(..) -/
def aMeth (c : Nat) (ct : Ct) (e : AE) (es : AA) : AE := fun δ Q => e δ fun w => match w with
  | .cl (.ins c' ds) => c' = c ∧ es δ fun ws => ct (.cl (.ins c' ds) :: ws) Q
  | _ => False
/-- C(..) -/
abbrev Ini := List W → (List D → Prop) → Prop
def aMake (c : Nat) (ini : Ini) (es : AA) : AE := fun δ Q => es δ fun ws => ini ws fun ds => Q (.cl (.ins c ds))
/-- C(.., k = v) -/
def aMakeK (c n m : Nat) (ini : Ini) (es ks : AA) : AE := fun δ Q => es δ fun ws => ks δ fun zs => (ws.length = n ∧ zs.length = m) ∧ ini (ws ++ zs) fun ds => Q (.cl (.ins c ds))
/-- what __init__ promises -/
def spI (T : Tb) (c : Nat) (ini : Ini) : Sp := fun vs H Q _ => ∃ (G : Gx) (F : Hp) (x dx : Addr) (us : List V) (ws : List W) (P : List D → Prop), vs = .ref x :: us ∧ H x = some (.ins (T.cl c) dx []) ∧ F x = none ∧ Same F H ∧ RepAs T G F H us ws ∧ ini ws P ∧
  ∀ ds, P ds → ∀ F' H' vs', (∀ b o, b ≠ x → H b = some o → H' b = some o) → Same F F' → Same F' H' → (∀ a, H a ≠ none → F' a = F a) → H' x = some (.ins (T.cl c) dx ((T.fs c).zip vs')) → (T.fs c).length = vs'.length → Reps T F' vs' ds → Q .non H'
section
variable {T : Tb} {X : Cx} {e : Expr} {es : List Expr} {x : AE} {xs : AA} {pos p apos : Pos} {c j : Nat} {f m : Str}
theorem e_fld (hTK : T.K = X.K) (hC : Cls X.K (T.cl c)) (hn : NoAttr X.K (T.cl c) f) (hd : (T.fs c).Nodup) (hj : (T.fs c)[j]? = some f) (he : PE X e (rdE T x)) (hb : attributeBase e f X.env (eval e X.env) = eval e X.env := by rfl) :
    PE X (.Attribute e f pos) (rdE T (aFld c j x)) := (pe_fld he hb).mono fun σ H Q h => by
  obtain ⟨G, F, δ, P, R, h, k⟩ := h
  refine ⟨G, F, δ, _, R, h, fun w hw v F1 H1 g r => ?_⟩
  split at hw
  · rename_i c' ds
    obtain ⟨rfl, hw⟩ := hw
    split at hw
    · rename_i d hd2
      obtain ⟨a, dx, vs, rfl, ha, hl, rr⟩ := rep_ins r
      obtain ⟨v, hv, rv⟩ := rr.getD hd2
      exact ⟨a, _, dx, _, v, rfl, g.ex _ _ ha, hC, hn, lookup_zip hd hj hv, k _ hw v F1 H1 g rv⟩
    · exact hw.elim
  · exact hw.elim
variable {k n : Nat} {fa : Addr} {fd : FuncData} {ps : List Str} {ct : Ct} {ini : Ini}
theorem e_meth {pl : Sem Bool} (hC : Cls X.K (T.cl c)) (hm : Meth X.K (T.cl c) m fa) (Fn : FnOk X.prog X.w X.K X.mg X.base CX0 k fa fd ps (spC T ct)) (hr : Room k X.A) (hb : Binds X.K fd ps []) (hno : m ∉ T.fs c) {o : Expr} {a : Expr} (ho : PE X o (rdE T x)) (ha : PA X (a :: es) (rdA T xs))
    (hst : starEach (a :: es) X.env = (false, eval a X.env) :: starEach es X.env := by rfl) (hpl : (backTo pos (starEach es X.env)).any (·.1) = false := by rfl)
    (ht : eval (.Call (.Attribute o m apos) (a :: es) [] pos) X.env = (do
      let ov ← eval o X.env
      standAt apos.atName
      let (f, first) ← holding [ov] (getMethod ov m pl)
      callWith pos f first (backTo pos (starEach (a :: es) X.env)) (backToKw pos (keywordEach [] X.env))) := by rfl) :
    PE X (.Call (.Attribute o m apos) (a :: es) [] pos) (rdE T (aMeth c ct x xs)) :=
  (pe_meth (E := E0) ho hC hm Fn hr hb .nil pass0 ha hst hpl ht).mono fun σ H Q h => by
    obtain ⟨G, F, δ, P, R, h, kk⟩ := h
    refine ⟨G, F, δ, _, R, h, fun w hw v F1 H1 g r => ?_⟩
    split at hw
    · rename_i c' ds
      obtain ⟨rfl, hw⟩ := hw
      obtain ⟨a, dx, vs, rfl, ha, hl, rr⟩ := rep_ins r
      refine ⟨a, dx, _, rfl, g.ex _ _ ha, lookup_zip_none hno, ?_⟩
      refine ⟨G, F1, δ, _, R.go g, hw, fun ws hws us F2 H2 g2 r2 => ?_⟩
      show spC T ct (.ref a :: (us ++ [])) H2 Q _
      rw [List.append_nil]
      exact ⟨G, F2, .cl (.ins c' ds) :: ws, P, g2.ex, .cons (Rep.mono g2.f r) r2, hws, fun w hP v F3 H3 g3 r3 => kk w hP v F3 H3 ((g.trans g2).trans g3) ((RepR.toW r3).back (g.h.trans g2.h))⟩
    · exact hw.elim
theorem rd_made {G : Gx} {F H F1 H1 : Hp} {us : List V} {ws : List W} {Q : VK} {P : W → Prop} {E : XK} (g : Go F H F1 H1) (r : RepAs T G F1 H1 us ws) (hw : ini ws fun ds => P (.cl (.ins c ds)))
    (kk : ∀ w, P w → ∀ v F' H', Go F H F' H' → RepW T G H F' H' v w → Q v H') (x dx : Addr) (hx : H1 x = none) (hdx : H1 dx = none) (ne : dx ≠ x) :
    spI T c ini (.ref x :: us) (upd (upd H1 dx (.own x)) x (.ins (T.cl c) dx [])) (fun v H2 => v = .non ∧ Q (.ref x) H2) E := by
  have hx2 : (upd H1 dx (.own x)) x = none := by rw [upd_ne ne.symm]; exact hx
  have g1 : Go F1 H1 F1 (upd (upd H1 dx (.own x)) x (.ins (T.cl c) dx [])) := ((Go.refl g.ex).lay hdx).lay hx2
  have fx : F1 x = none := g.ex.free hx
  refine ⟨G, F1, x, dx, us, ws, _, rfl, upd_same, fx, g1.ex, r.go g1, hw, fun ds hds F' H' vs' q1 q2 q3 q4 q5 q6 q7 => ⟨rfl, ?_⟩⟩
  have fx' : F' x = none := by rw [q4 x (by rw [upd_same]; simp)]; exact fx
  have h1 : Same H H' := fun b o e => q1 b o (ne_of_none (g.h _ _ e) hx) (g1.h _ _ (g.h _ _ e))
  refine kk _ hds _ (upd F' x (.ins (T.cl c) dx ((T.fs c).zip vs'))) H' ⟨h1, fun b o e => ?_, fun b o e => ?_, fun a ha => ?_⟩ (.ins upd_same q6 (q7.mono (Same.updN fx')))
  · have := g.f _ _ e
    rw [upd_ne (ne_of_none this fx)]
    exact q2 _ _ this
  · by_cases hb : b = x
    · subst hb
      rw [upd_same] at e
      rw [← e]; exact q5
    · rw [upd_ne hb] at e
      exact q3 _ _ e
  · have ha1 : H1 a ≠ none := Same.nn g.h ha
    have : a ≠ x := fun z => ha1 (z ▸ hx)
    rw [upd_ne this, q4 a (Same.nn g1.h ha1)]
    exact g.n a ha
theorem e_make (M : Mk X.K (T.cl c) fa) (Fn : FnOk X.prog X.w X.K X.mg X.base CX0 k fa fd ps (spI T c ini)) (hr : Room (k + 1) X.A) (hg : Gl X f) (hm : X.mg f = some (.ref (T.cl c))) (hb : Binds X.K fd ps []) (ha : PA X (e :: es) (rdA T xs))
    (hdb : (f == ("__debug__" : Str)) = false := by decide) (he : starEach (e :: es) X.env = (false, eval e X.env) :: starEach es X.env := by rfl) (hpl : (backTo pos (starEach es X.env)).any (·.1) = false := by rfl) :
    PE X (.Call (.Name f p) (e :: es) [] pos) (rdE T (aMake c ini xs)) :=
  (pe_make (E := E0) M Fn hr hg hm hb .nil pass0 ha hdb he hpl).mono fun σ H Q h => by
    obtain ⟨G, F, δ, P, R, h, kk⟩ := h
    refine ⟨G, F, δ, _, R, h, fun ws hw us F1 H1 g r x dx hx hdx ne => ?_⟩
    rw [List.append_nil]
    exact rd_made g r hw kk x dx hx hdx ne
theorem RepAs.append {G : Gx} {F H : Hp} : ∀ {us vs : List V} {ws zs : List W}, RepAs T G F H us ws → RepAs T G F H vs zs → RepAs T G F H (us ++ vs) (ws ++ zs)
  | _, _, _, _, .nil, s => s
  | _, _, _, _, .cons r t, s => .cons r (RepAs.append t s)
variable {ks : List Str} {kws : List Keyword} {zs : AA} {g : List Value → List Value → List Value}
theorem k_cons {nm : Option Str} {kpos : Pos} (ha : PE X e (rdE T x)) (hr : PK X kws (rdA T zs)) : PK X (⟨nm, e, kpos⟩ :: kws) (rdA T (aCons x zs)) := ⟨fun pos pins s σ H Q I h => (pk_cons ha hr).run pos pins s σ H Q I (by
  obtain ⟨G, F, δ, P, R, h, k⟩ := h
  refine ⟨G, F, δ, _, R, h, fun w hw v F1 H1 g r => ?_⟩
  obtain ⟨F2, g2, _, _, r2, _⟩ := RepW.arg g r
  refine ⟨G, F2, δ, _, R.go g2, hw, fun ws hws vs F3 H3 g3 r3 => ?_⟩
  exact k _ hws (v :: vs) F3 H3 (g2.trans g3) (.cons (r2.toA.go g3) r3))⟩
theorem k_nil : PK X [] (rdA T aNil) := ⟨fun pos pins s σ H Q I h => pk_nil.run pos pins s σ H Q I (by
  obtain ⟨G, F, δ, P, R, h, k⟩ := h
  exact k _ h [] F H (Go.refl R.ex) .nil)⟩
theorem e_makeK (M : Mk X.K (T.cl c) fa) (Fn : FnOk X.prog X.w X.K X.mg X.base CX0 k fa fd ps (spI T c ini)) (hr : Room (k + 1) X.A) (hg : Gl X f) (hm : X.mg f = some (.ref (T.cl c))) (hb : KBn X.K fd ps (n + 1) ks g (fun vs zs => vs ++ zs)) (ha : PA X (e :: es) (rdA T xs)) (hkw : PK X kws (rdA T zs))
    (hall : (backToKw pos (keywordEach kws X.env)).all (·.1.isSome) = true := by rfl) (hks : (backToKw pos (keywordEach kws X.env)).filterMap (·.1) = ks := by rfl) (hdb : (f == ("__debug__" : Str)) = false := by decide)
    (he : starEach (e :: es) X.env = (false, eval e X.env) :: starEach es X.env := by rfl) (hpl : ((backTo pos (starEach (e :: es) X.env)).any (·.1) || (backToKw pos (keywordEach kws X.env)).any (·.1.isNone)) = false := by rfl) :
    PE X (.Call (.Name f p) (e :: es) kws pos) (rdE T (aMakeK c n ks.length ini xs zs)) :=
  (pe_makeK (E := E0) M Fn hr hg hm hb pass0 ha hkw hall hks hdb he hpl).mono fun σ H Q h => by
    obtain ⟨G, F, δ, P, R, h, kk⟩ := h
    refine ⟨G, F, δ, _, R, h, fun ws hw us F1 H1 g r => ⟨G, F1, δ, _, R.go g, hw, fun zs hz vs F2 H2 g2 r2 => ?_⟩⟩
    obtain ⟨⟨l1, l2⟩, hz⟩ := hz
    refine ⟨r.length.trans l1, r2.length.trans l2, fun x dx hx hdx ne => ?_⟩
    exact rd_made (g.trans g2) ((r.go g2).append r2) hz kk x dx hx hdx ne
end

/-! ### __init__ -/
structure IniS (T : Tb) (c : Nat) (G : Gx) (F H : Hp) (σ : L2.St) (δ : List AV) (x dx : Addr) (vs : List V) (ds : List D) : Prop where
  R : RepS T G F H σ δ
  L : G.L = [x]
  g0 : σ[0]? = some (some (.ref x))
  ob : H x = some (.ins (T.cl c) dx (((T.fs c).take vs.length).zip vs))
  ln : vs.length ≤ (T.fs c).length
  sm : (T.fs c).length < 1000
  fx : F x = none
  rp : Reps T F vs ds
abbrev AF := List AV → List D → (List D → Prop) → Prop
def rdF (T : Tb) (c : Nat) (a : AF) : TS := fun D σ H => ∃ G F δ x dx vs ds P, IniS T c G F H σ δ x dx vs ds ∧ a δ ds P ∧ ∀ ds', P ds' → ∀ F' H' vs', Same F F' → IniS T c G F' H' σ δ x dx vs' ds' → D.nx σ H'
def aF (n : Nat) (x : AE) : AF := fun δ ds P => ds.length = n ∧ x δ fun w => match clW w with
  | some d => P (ds ++ [d])
  | none => False
def aFs (a b : AF) : AF := fun δ ds P => a δ ds fun ds' => b δ ds' P
section
variable {T : Tb} {X : Cx} {e : Expr} {st : Stmt} {rest : List Stmt} {x : AE} {pos p1 p2 : Pos} {c n : Nat} {f s : Str} {a b : AF}
theorem i_fld (hTK : T.K = X.K) (hC : Cls X.K (T.cl c)) (hn : NoAttr X.K (T.cl c) f) (hd : (T.fs c).Nodup) (hj : (T.fs c)[n]? = some f) (hN : X.N[0]? = some s) (he : PE X e (rdE T x)) (hs : swapsWith e (some (.Attribute (.Name s p1) f p2)) pos.line X.env = pure false := by rfl)
    (hv : Vis X.env.scope s := by first | exact Or.inl rfl | exact Or.inr (Or.inl rfl) | exact Or.inr (Or.inr rfl)) (hdd : (s == ("__debug__" : Str)) = false := by decide) (hcd : (s == ("__classdict__" : Str)) = false := by decide) : PS X (.Assign [.Attribute (.Name s p1) f p2] e pos) (rdF T c (aF n x)) :=
  (ps_fld (pe_var hN hv hdd hcd) he hs).mono fun D σ H h => by
    obtain ⟨G, F, δ, x, dx, vs, ds, P, S, ⟨hl, h⟩, k⟩ := h
    refine ⟨G, F, δ, _, S.R, h, fun w hw v F1 H1 g r => ?_⟩
    split at hw
    · rename_i d hd2
      obtain ⟨F2, g2, r2⟩ := clW_rep g r hd2
      have hob := g2.h _ _ S.ob
      have hvl : vs.length = n := S.rp.length.trans hl
      refine ⟨_, S.g0, x, _, dx, _, rfl, hob, hC, hn, ?_, ?_⟩
      · rw [List.length_zip, List.length_take]
        have := S.sm
        have := S.ln
        omega
      · have hfx : F2 x = none := by rw [g2.n x (by rw [S.ob]; simp)]; exact S.fx
        rw [putF_zip hd (by rw [hvl]; exact hj)]
        have R2 := S.R.go g2
        have hlt : vs.length < (T.fs c).length := by
          apply Classical.byContradiction
          intro q
          rw [List.getElem?_eq_none_iff.mpr (by omega)] at hj
          cases hj
        have noM : ∀ (m : M) q, Own T F2 H1 q m → q ≠ x := fun m q o e => by
          subst e
          obtain ⟨ob, e1, e2⟩ := o.ob
          rw [hob] at e1
          cases e1
          cases m with
          | fl ds => obtain ⟨_, q, _⟩ := e2; cases q
          | fd t ks ds => cases t <;> (obtain ⟨_, q, _⟩ := e2; cases q)
        have own : ∀ (m : M) q, Own T F2 H1 q m → Own T F2 (upd H1 x (.ins (T.cl c) dx (((T.fs c).take (vs ++ [v]).length).zip (vs ++ [v])))) q m := fun m q o => by
          obtain ⟨ob, e1, e2⟩ := o.ob
          exact ⟨o.fn, ob, by rw [upd_ne (noM m q o)]; exact e1, e2⟩
        refine k _ hw F2 _ (vs ++ [v]) g2.f ⟨⟨?_, ?_, ?_, R2.lh, R2.f0, R2.fn, R2.len, ?_, R2.dj⟩, S.L, S.g0, upd_same, by rw [List.length_append, List.length_singleton]; omega, S.sm, hfx, (S.rp.mono g2.f).snoc r2⟩
        · intro q o e
          rw [upd_ne (ne_of_none e hfx)]; exact R2.ex _ _ e
        · intro q o e hq
          have : q ≠ x := fun z => hq (by rw [S.L, z]; exact List.mem_cons_self)
          rw [upd_ne this]; exact R2.fr q o e hq
        · intro q hq z
          by_cases e : q = x
          · rw [e, upd_same] at z; cases z
          · rw [upd_ne e] at z; exact R2.th q hq z
        · intro i
          have q := R2.sl i
          generalize gt δ i = av at q
          cases av with
          | non => trivial
          | im d => exact q
          | bw m => obtain ⟨p, e1, e2, e3, o⟩ := q; exact ⟨p, e1, e2, e3, own m p o⟩
          | ow l m => obtain ⟨p, e1, e2, o⟩ := q; exact ⟨p, e1, e2, own m p o⟩
    · exact hw.elim
theorem i_one (h1 : PS X st (rdF T c a)) : PSs X [st] (rdF T c a) := pss_one h1
theorem i_cons (h1 : PS X st (rdF T c a)) (h2 : PSs X rest (rdF T c b)) : PSs X (st :: rest) (rdF T c (aFs a b)) := (pss_cons h1 h2).mono fun D σ H h => by
  obtain ⟨G, F, δ, x, dx, vs, ds, P, S, h, k⟩ := h
  exact ⟨G, F, δ, x, dx, vs, ds, _, S, h, fun ds' q F' H' vs' s S' => ⟨G, F', δ, x, dx, vs', ds', P, S', q, fun ds2 q2 F2 H2 vs2 s2 S2 => k ds2 q2 F2 H2 vs2 (s.trans s2) S2⟩⟩
end
theorem repS_ini {T : Tb} {F H : Hp} {x dx : Addr} {C : Addr} {G : Gx} {vs : List V} {ws : List W} (sm : Same F H) (r : RepAs T G F H vs ws) (hx : H x = some (.ins C dx [])) (Nm : List Str) (hNm : Nm.length = vs.length + 1) : RepS T ⟨H, F, [x]⟩ F H (L2.start Nm (.ref x :: vs)) (.non :: ws.map avOf) := by
  have hl := r.length
  have hst : ∀ i, gs (L2.start Nm (.ref x :: vs)) (i + 1) = vs[i]? := fun i => by
    unfold gs L2.start
    rw [List.getD_eq_getElem?_getD]
    by_cases hi : i < vs.length
    · rw [List.getElem?_append_left (by simpa using hi), List.getElem?_map, List.getElem?_cons_succ]
      cases vs[i]? <;> rfl
    · rw [List.getElem?_append_right (by simpa using hi), List.getElem?_replicate, List.getElem?_eq_none_iff.mpr (by omega)]
      split <;> rfl
  have hgt : ∀ i, gt (AV.non :: ws.map avOf) (i + 1) = ((ws[i]?).map avOf).getD .non := fun i => by
    unfold gt
    rw [List.getD_eq_getElem?_getD, List.getElem?_cons_succ, List.getElem?_map]
  have nm : ∀ (m : M) p, Own T F H p m → p ≠ x := fun m p o e => by
    subst e
    obtain ⟨ob, e1, e2⟩ := o.ob
    rw [hx] at e1
    cases e1
    cases m with
    | fl ds => obtain ⟨_, q, _⟩ := e2; cases q
    | fd t ks ds => cases t <;> (obtain ⟨_, q, _⟩ := e2; cases q)
  refine ⟨sm, fun a o h _ => h, fun a h => h, fun a h => by rw [List.mem_singleton.mp h]; show H x ≠ none; rw [hx]; simp, Same.refl _, fun a _ => rfl, ?_, fun i => ?_, fun i j l l' m m' e1 => ?_⟩
  · unfold L2.start
    simp [hl, hNm]
  · cases i with
    | zero => trivial
    | succ i =>
      rw [hst, hgt]
      cases e : ws[i]? with
      | none => trivial
      | some w =>
        obtain ⟨v, hv, rv⟩ := r.get e
        rw [hv]
        cases w with
        | cl d => exact ⟨v, rfl, rv⟩
        | bw m =>
          obtain ⟨p, rfl, _, _, o⟩ := rv
          have := nm m p o
          obtain ⟨ob, e1, _⟩ := o.ob
          exact ⟨p, rfl, by simpa using this, (fun z => by cases e1.symm.trans z), o⟩
        | ow m =>
          obtain ⟨p, rfl, o⟩ := rv
          have := nm m p o
          obtain ⟨ob, e1, _⟩ := o.ob
          exact ⟨p, rfl, by simpa using this, (fun z => by cases e1.symm.trans z), o⟩
        | fr m => exact rv.elim
  · cases i with
    | zero => cases e1
    | succ i =>
      rw [hgt] at e1
      cases e : ws[i]? with
      | none => rw [e] at e1; cases e1
      | some w => rw [e] at e1; cases w <;> cases e1
section
variable {T : Tb} {P : Program} {wd : World} {K : PySem.W.Frag} {mg : Str → Option Value} {base : Heap} {f : Addr} {fd : FuncData} {k c : Nat} {ini : Ini} {a : AF}
theorem ini_read {H : Hp} {vs : List V} {Q : VK} {E : XK} {N : List Str} (len : ∀ ws P, ini ws P → ws.length + 1 = N.length) (hsm : (T.fs c).length < 1000) (hw : ∀ ws P, ini ws P → a (.non :: ws.map avOf) [] fun ds => ds.length = (T.fs c).length ∧ P ds) (h : spI T c ini vs H Q E) :
    vs.length = N.length ∧ rdF T c a { nx := fun _ H' => Q .non H', rt := Q } (L2.start N vs) H := by
  obtain ⟨G, F, x, dx, us, ws, P, rfl, hx, fx, sm, r, hi, kk⟩ := h
  have hN : N.length = us.length + 1 := by rw [r.length, len ws P hi]
  refine ⟨by rw [hN]; rfl, _, F, _, x, dx, [], [], _, ⟨repS_ini sm r hx N hN, rfl, ?_, ?_, Nat.zero_le _, hsm, fx, .nil⟩, hw ws P hi, fun ds ⟨hl, hP⟩ F' H' vs' s S => ?_⟩
  · unfold L2.start
    rfl
  · rw [hx]; rfl
  · have hvl : vs'.length = (T.fs c).length := S.rp.length.trans hl
    have ho := S.ob
    rw [hvl, List.take_length] at ho
    exact kk ds hP F' H' vs' (fun b o hb e => S.R.fr b o e (by simpa using hb)) s S.R.ex (fun a h => S.R.fn a h) ho hvl.symm S.rp
theorem fn_ini {y qual : Str} {st : Stmt} {N : List Str} (Fn : Fun K y qual st f fd) (S : FnScope N N (defScope st)) (len : ∀ ws P, ini ws P → ws.length + 1 = N.length) (hsm : (T.fs c).length < 1000)
    (hd : ∀ (cdv : Value) (A : Around) (outer : List Env) (s : Shared) (H : Hp) (E : XK), Room k (A.deeper (envOfC qual (defScope st) s.heap.objs.size f cdv)) →
      PSs (cxOf CX0 P wd K mg base N qual (defScope st) f cdv A outer s H E).nox (defBody st) (rdF T c a))
    (hw : ∀ ws P, ini ws P → a (.non :: ws.map avOf) [] fun ds => ds.length = (T.fs c).length ∧ P ds) : FnOk P wd K mg base CX0 (k + 1) f fd N (spI T c ini) :=
  Fn.ok S (fun vs H Q E h => (ini_read len hsm hw h).1) (fun cdv A outer s H vs Q E hr h => ⟨_, hd cdv A outer s H E hr, (ini_read len hsm hw h).2⟩)
theorem fn_iniD {y qual : Str} {params : Arguments} {body : List Stmt} {scope : Scope} {dvs : List V} {kws : List (Str × V)} {N : List Str} (Fn : FunD K y qual params body scope dvs kws f fd) (S : FnScope N N scope) (len : ∀ ws P, ini ws P → ws.length + 1 = N.length) (hsm : (T.fs c).length < 1000)
    (hd : ∀ (cdv : Value) (A : Around) (outer : List Env) (s : Shared) (H : Hp) (E : XK), Room k (A.deeper (envOfC qual scope s.heap.objs.size f cdv)) →
      PSs (cxOf CX0 P wd K mg base N qual scope f cdv A outer s H E) body (rdF T c a))
    (hw : ∀ ws P, ini ws P → a (.non :: ws.map avOf) [] fun ds => ds.length = (T.fs c).length ∧ P ds) : FnOk P wd K mg base CX0 (k + 1) f fd N (spI T c ini) :=
  Fn.ok S (fun vs H Q E h => (ini_read len hsm hw h).1) (fun cdv A outer s H vs Q E hr h => ⟨_, hd cdv A outer s H E hr, (ini_read len hsm hw h).2⟩)
end
theorem kb_mk {K : PySem.W.Frag} {x qual : Str} {st : Stmt} {f : Addr} {fd : FuncData} {ps ks : List Str} {n : Nat} (F : Fun K x qual st f fd)
    (h : ∀ (kV doc pm : Value) (an : Option Addr) (cdv ct : Value) (us ws : List Value), us.length = n → ws.length = ks.length → bindArgs (PySem.W.fnOf x qual (defArgs st) (defBody st) (defScope st) .none kV doc pm an cdv ct) ⟨us, ks.zip ws⟩ = pure (ps.zip (us ++ ws))) :
    KBn K fd ps n ks (fun us ws => us ++ ws) (fun vs zs => vs ++ zs) := by
  obtain ⟨oc, od, kV, doc, pm, an, cdv, ct, osl, rfl, lk, hcd⟩ := F.ex
  exact ⟨fun s us ws _ l1 l2 => .of_eq (h kV doc pm an cdv ct us ws l1 l2), fun r1 r2 => r1.append r2⟩
/-! ### xs.insert(i, d), sorted(xs) -/
def mInsert : FM := fun m ws P => match m, ws with
  | .fl ds, [.cl (.int i), .cl d] => (ds.length < 1000000 ∧ 0 ≤ i ∧ i < 2 ^ 63) ∧ P (.fl (ds.take i.toNat ++ [d] ++ ds.drop i.toNat)) .non
  | _, _ => False
def rInsert : V → List V → Hp → VK → Prop := fun x vs H Q => ∃ (l : Addr) (xs : List V) (i : Int) (y : V), x = .ref l ∧ vs = [.int i, y] ∧ H l = some (.lst xs) ∧ xs.length < sizeLine ∧ 0 ≤ i ∧ i < 2 ^ 63 ∧ Q .non (upd H l (.lst (xs.take i.toNat ++ [y] ++ xs.drop i.toNat)))
def fSorted : List W → (W → Prop) → Prop := one fun w Q => ∃ ns : List Int, lstC w = some (ns.map .int) ∧ ns.length < 64 ∧ ∀ ms : List Int, ms.Perm ns → ms.Pairwise (· ≤ ·) → Q (.fr (.fl (ms.map .int)))
theorem m_insert {T : Tb} : MutV T rInsert mInsert := by
  intro G F H p m o xs ws P Q sm ho mo ra h k
  unfold mInsert at h
  split at h
  · rename_i ds i d
    obtain ⟨vs, rfl, r⟩ := mo
    obtain ⟨⟨h1, h2, h3⟩, h⟩ := h
    cases ra with
    | cons r2 t =>
      cases t with
      | cons r3 t =>
        cases t
        exact ⟨p, vs, i, _, rfl, by rw [rep_int r2], ho, by rw [r.length]; exact dSz_lt h1, h2, h3, k _ _ h _ _ ⟨_, rfl, ((r.take _).snoc r3).append (r.drop _)⟩ .non⟩
  · exact h.elim
theorem mt_insertA {X : Cx} : MtR X "list.insert" rInsert := mt_insert
theorem c_sorted {T : Tb} : CallV T (rSorted T.K) fSorted := by
  intro G F H F' H' xs ws P Q g r h k
  obtain ⟨x, w, rfl, rfl, rx, h⟩ := one_inv h r
  obtain ⟨ns, es, hl, q⟩ := h
  obtain ⟨p, vs, rfl, hs, rr⟩ := rx.lst g.ex es
  rw [reps_ints rr] at hs
  exact ⟨p, ns, rfl, hs, hl, fun ms l hp hs2 hl2 => new_list g (reps_of_ints ms) (q ms hp hs2) k hl2⟩
/-! ### xs.index(d) -/
def ixOf (x : D) : List D → Nat
  | [] => 0
  | d :: ds => if eqD d x = true then 0 else ixOf x ds + 1
def aIndex (o : AE) (es : AA) : AE := fun δ Q => o δ fun w => match itemsC w with
  | some ds => es δ fun ws => match ws with
    | [.cl x] => (okD x = true ∧ okD (.lst ds) = true ∧ inD x ds = true) ∧ Q (.cl (.int (ixOf x ds : Nat)))
    | _ => False
  | none => False
theorem ixOf_at (x : D) : ∀ {ds : List D}, inD x ds = true → ∃ z, ds[ixOf x ds]? = some z ∧ eqD z x = true ∧ ∀ m z', m < ixOf x ds → ds[m]? = some z' → eqD z' x = false
  | [], h => by simp [inD] at h
  | d :: ds, h => by
    unfold ixOf
    by_cases q : eqD d x = true
    · rw [if_pos q]
      exact ⟨d, rfl, q, fun m z' hm => by omega⟩
    · rw [if_neg q]
      have h2 : inD x ds = true := by
        unfold inD at h ⊢
        rw [List.any_cons] at h
        simpa [q] using h
      obtain ⟨z, h3, h4, h5⟩ := ixOf_at x h2
      refine ⟨z, by simpa using h3, h4, fun m z' hm hz => ?_⟩
      cases m with
      | zero => simp at hz; subst hz; simpa using q
      | succ m => exact h5 m z' (by omega) (by simpa using hz)
section
variable {T : Tb} {X : Cx} {e o : Expr} {es : List Expr} {x : AE} {xs : AA} {pos apos : Pos}
theorem e_index (hTK : T.K = X.K) (hu : X.A.units + 65 < cLine) (ho : PE X o (rdE T x)) (ha : PA X (e :: es) (rdA T xs))
    (hbase : attributeBase o "index" X.env (eval o X.env) = eval o X.env := by rfl)
    (hfew : ((backTo pos (starEach (e :: es) X.env)).all (fun x => !x.1) && (backToKw pos (keywordEach [] X.env)).all (fun x => x.1.isSome)
      && decide ((e :: es).length + ([] : List Keyword).length + (if ([] : List Keyword).isEmpty then 0 else 1) < 30)) = true := by rfl)
    (hline : (apos.endLine == pos.line) = true := by rfl) (hs : starEach (e :: es) X.env = (false, eval e X.env) :: starEach es X.env := by rfl) (hplain : (backTo pos (starEach es X.env)).any (·.1) = false := by rfl) :
    PE X (.Call (.Attribute o "index" apos) (e :: es) [] pos) (rdE T (aIndex x xs)) :=
  (pe_bm PySem.F.plainAttrs_list PySem.F.slot_list_index PySem.F.type_list_index (mt_indexD hu) ho ha hbase hfew hline hs hplain).mono fun σ H Q h => by
    obtain ⟨G, F, δ, P, R, h, k⟩ := h
    refine ⟨G, F, δ, _, R, h, fun w hw v F1 H1 g r => ?_⟩
    split at hw
    · rename_i ds hd
      obtain ⟨p, vs, rfl, hp, rr⟩ := r.items g.ex hd
      refine ⟨.inl ⟨rfl, _, SqL.of hp⟩, G, F1, δ, _, R.go g, hw, fun ws hws us F2 H2 g2 r2 => ?_⟩
      split at hws
      · rename_i y
        obtain ⟨⟨o1, o2, h3⟩, q⟩ := hws
        cases r2 with
        | cons ry t =>
          cases t
          obtain ⟨z, h4, h5, h6⟩ := ixOf_at y h3
          have o3 : PyData.canLayAll0 (pds ds) = true := by simpa [pd, PyData.canLay0] using SeqAt.canLay_of_shaped o2
          have hp2 := g2.h _ _ hp
          refine ⟨p, _, pd y, pds ds, ixOf y ds, pd z, rfl, rfl, .lst (hTK ▸ SqL.of hp2) (hTK ▸ ((rr.mono g2.f).mono g2.ex).dp o3), hTK ▸ (Rep.mono g2.ex ry).dpo o1, o2, o1, by rw [pds_map, List.getElem?_map, h4]; rfl, h5, fun m z' hm hz => ?_, k _ q _ F2 H2 (g.trans g2) (.int _)⟩
          rw [pds_map, List.getElem?_map] at hz
          cases e : ds[m]? with
          | none => rw [e] at hz; cases hz
          | some d =>
            rw [e] at hz
            cases hz
            exact h6 m d hm e
      · exact hws.elim
    · exact hw.elim
end
theorem fSorted_eq (w : W) (Q : W → Prop) : fSorted [w] Q = ∃ ns : List Int, lstC w = some (ns.map .int) ∧ ns.length < 64 ∧ ∀ ms : List Int, ms.Perm ns → ms.Pairwise (· ≤ ·) → Q (.fr (.fl (ms.map .int))) := rfl
end Vl
/-! Swapped stores; isinstance of an own class; != of lists whose data are equal; == of an own class. -/
namespace GQ
open PySem PySem.SeqAt
open AutoSeq1 (wpAny_loadPart')
open MeetsSeq MeetsSeq2 MeetsSeq3 SeqRoads2
section
variable {prog : Program} {w : World} {A : Around} {R : Result → Shared → Prop}
theorem ne_loopG (l b : Addr) (N : Nat) (I : Nat → Shared → Prop) (hl : ListI prog w A (fun e s' => R (.error e) s') l b N I)
    (fin : ∀ s, I N s → R (.ok (.ret (.bool false))) s) (k : Nat) :
    ∀ i : Nat, N - i = k → i ≤ N → ∀ s, I i s →
      wpAny (model prog w) A.in1 (Builtin.«list.__eq__.loop» ⟨[.ref l, .ref b, rawInt i, rawInt 3], []⟩) (FinOf prog w A R) (fun e s' => R (.error e) s') s := by
  induction k with
  | zero =>
    intro i hk hi s h
    obtain ⟨items, items2, n, n2, hl1, hb1, hs1, hs2, _⟩ := hl _ _ h
    have hi' : i = N := by omega
    have hR : R (.ok (.ret (.bool false))) s := fin s (hi' ▸ h)
    obtain ⟨hp, g, d, tk, os⟩ := s
    wp_walk using wpAny_loadPart' hl1, wpAny_loadPart' hb1
    have hi1 : items[((i : Nat) : Int).toNat]? = none := by simp; omega
    have hi2 : items2[((i : Nat) : Int).toNat]? = none := by simp; omega
    rw [hi1, hi2]
    wp_walk using wpAny_loadPart' hl1, wpAny_loadPart' hb1
    show R (.ok (.ret (.bool (items.size != items2.size)))) _
    rw [hs1, hs2]
    simpa using hR
  | succ k ih =>
    intro i hk hi s h
    obtain ⟨items, items2, n, n2, hl1, hb1, hs1, hs2, turn⟩ := hl _ _ h
    have hlt : i < items.size := by omega
    have hlt2 : i < items2.size := by omega
    have ht := turn hlt hlt2
    obtain ⟨hp, g, d, tk, os⟩ := s
    wp_walk using wpAny_loadPart' hl1, wpAny_loadPart' hb1
    have hi1 : items[((i : Nat) : Int).toNat]? = some items[i] := by simp [hlt]
    have hi2 : items2[((i : Nat) : Int).toNat]? = some items2[i] := by simp [hlt2]
    have hc : ((i : Int) + 1) = ((i + 1 : Nat) : Int) := by omega
    rw [hi1, hi2]
    refine wpAny_bind (wpAny_mono ht (fun r s2 h2 => ?_) fun _ _ x => x)
    obtain ⟨hr, h2⟩ := h2
    subst hr
    have hrec := ih (i + 1) (by omega) (by omega) s2 h2
    obtain ⟨hp2, g2, d2, tk2, os2⟩ := s2
    wp_walk
    rw [hc]
    exact ⟨plainId_quiet plain_eq_loop _, codeAny_builtin entry_eq_loop (by
      rw [Around.under_plainId plain_eq_loop _]
      exact hrec)⟩
theorem list_neG (l b : Addr) (N : Nat) (I : Nat → Shared → Prop) (hl : ListI prog w A (fun e s' => R (.error e) s') l b N I)
    (fin : ∀ s, I N s → R (.ok (.ret (.bool false))) s) {s : Shared} (h : I 0 s) :
    wpAny (model prog w) A.in1 (Builtin.«list.__ne__» ⟨[.ref l, .ref b], []⟩) (FinOf prog w A R) (fun e s' => R (.error e) s') s := by
  obtain ⟨items, items2, n, n2, hl1, hb1, hs1, hs2, _⟩ := hl _ _ h
  have hrec := ne_loopG (A := A) (R := R) l b N I hl fin _ 0 rfl (Nat.zero_le _) s h
  obtain ⟨hp, g, d, tk, os⟩ := s
  have f3 := AutoSeq1.sub_list_list
  have hne : ¬ (items.size != items2.size) = true := by simp [hs1, hs2]
  wp_walk using wpAny_loadPart' hl1, wpAny_loadPart' hb1
  exact ⟨plainId_quiet plain_eq_loop _, codeAny_builtin entry_eq_loop (by
    rw [Around.under_plainId plain_eq_loop _]
    exact hrec)⟩
end
section
variable {prog : Program} {w : World} {A : Around} {E : Value → Shared → Prop} {s : Shared}
theorem rc_nlistG {l b : Addr} {N : Nat} {Q : Value → Shared → Prop} (hu : A.units < cLine) (I : Nat → Shared → Prop) (hl : ListI prog w A E l b N I)
    (fin : ∀ s, I N s → Q (.bool false) s) (h : I 0 s) : wpAny (model prog w) A (richCompare .NotEq (.ref l) (.ref b)) Q E s := by
  obtain ⟨items, items2, n, n2, hl1, hb1, _, _, _⟩ := hl _ _ h
  refine wpAny_richCompare_same_room (op := .NotEq) ⟨_, hl1, rfl⟩ ⟨_, hb1, rfl⟩ F.slot_list_ne (call_here F.slot_list_ne ⟨_, hl1, rfl⟩ F.entry_list_ne (F.args_list_ne_2 _ _) ?_) hu
  exact list_neG (R := wants (fun v s' => v ≠ .notImplemented ∧ Q v s') E) l b N I hl (fun s' q => ⟨(fun x => nomatch x), fin s' q⟩) h
end
end GQ
namespace Vl
open PySem PySem.Spec PyProof.Rows L2
/-! ### a, b = x, y -/
def aPar (i j : Nat) (es : AA) : AS := fun E δ => es δ fun ws => match ws with
  | [.cl d, .cl e] => E.nx ((δ.set i (.im d)).set j (.im e))
  | _ => False
section
variable {T : Tb} {X : Cx} {i j : Nat} {x y : Str} {a b : Expr} {xs : AA} {px py pt pos : Pos} {kt k2 pt2}
theorem s_par (hc : X.calm = true) (hN : X.N.Nodup) (hi : X.N[i]? = some x) (hj : X.N[j]? = some y) (hij : i ≠ j) (hx : X.env.scope.names.lookup x = some .local) (hy : X.env.scope.names.lookup y = some .local) (ha : PA X [a, b] (rdA T xs))
    (hw : swappedStores [.Tuple [.Name x px, .Name y py] kt pt] (.Tuple [a, b] k2 pt2) X.env = pure (some [x, y])) (hs : swapsWithSole [.Tuple [.Name x px, .Name y py] kt pt] (.Tuple [a, b] k2 pt2) pos.line X.env = pure false := by rfl) :
    PS X (.Assign [.Tuple [.Name x px, .Name y py] kt pt] (.Tuple [a, b] k2 pt2) pos) (rdS T (aPar i j xs)) := (ps_par hc hN hi hj hij hx hy ha hw hs).mono fun D' σ H h => by
  obtain ⟨G, F, δ, E, R, h, k⟩ := h
  refine ⟨G, F, δ, _, R, h, fun ws hw vs F1 H1 g r => ?_⟩
  split at hw
  · rename_i d e
    cases r with
    | cons r1 t =>
      cases t with
      | cons r2 t =>
        cases t
        exact ⟨_, _, rfl, k.nx _ hw F1 H1 _ g.f ((((R.go g).put (a := .im d) ⟨_, rfl, r1⟩ fun _ _ e => nomatch e)).put (a := .im e) ⟨_, rfl, r2⟩ fun _ _ e => nomatch e)⟩
  · exact hw.elim
end
/-! ### isinstance(x, C), C an own class -/
def aIsO (c : Nat) (e : AE) : AE := fun δ Q => e δ fun w => match w with
  | .cl (.ins c' _) => c' = c ∧ Q (.cl (.bl true))
  | .cl (.lst _) => Q (.cl (.bl false))
  | .cl (.int _) => Q (.cl (.bl false))
  | _ => False
structure IsOk (K : PySem.W.Frag) (C : Addr) : Prop where
  ins : C8.InsC K C
  kl : PySem.W.kitOne K (.type "list") (.ref C) = some false
  ki : PySem.W.kitOne K (.type "int") (.ref C) = some false
theorem kit_me {K : PySem.W.Frag} {C : Addr} : PySem.W.kitOne K (.ref C) (.ref C) = some true := by
  unfold PySem.W.kitOne
  rw [if_pos (by simp)]
theorem kit_ty2 {K : PySem.W.Frag} {C : Addr} {t : String} (h1 : PySem.W.isClsIn K C = true) (h2 : PySem.W.typeIn K (.ref C) = some (.type "type")) (h3 : PySem.W.subIn K (.type t) (.ref C) = some false) : PySem.W.kitOne K (.type t) (.ref C) = some false := by
  unfold PySem.W.kitOne
  rw [if_neg (by simp)]
  unfold PySem.W.kitCls
  unfold PySem.W.isClsIn at h1
  simp only [h1, h2, h3, Bool.true_and, beq_self_eq_true, if_true]
theorem is_mk {K : PySem.W.Frag} {C : Addr} (cl : Cls K C) (ha : PySem.W.findIn K (.ref C) "__class__" = some (some (.builtin "object.__class__"))) (hn : PySem.W.specialIn K (.builtin "object.__class__") "__get__" = some (some (.builtin "getset_descriptor.__get__")))
    (ht : PySem.W.takesIn K (.builtin "object.__class__") = some true) (hm : PySem.W.mroIn K C (.type "object") = some true) (h1 : PySem.W.isClsIn K C = true) (h2 : PySem.W.typeIn K (.ref C) = some (.type "type")) (h3 : PySem.W.subIn K (.type "list") (.ref C) = some false) (h4 : PySem.W.subIn K (.type "int") (.ref C) = some false) : IsOk K C :=
  ⟨⟨cl, ha, hn, ht, hm, kit_me⟩, kit_ty2 h1 h2 h3, kit_ty2 h1 h2 h4⟩
section
variable {T : Tb} {X : Cx} {e : Expr} {x : AE} {c : Nat} {s : Str} {p p2 pos : Pos}
theorem e_isO (hTK : T.K = X.K) (I : IsOk X.K (T.cl c)) (hm : X.mg "isinstance" = none) (hg : Gl X "isinstance") (hg2 : Gl X s) (hm2 : X.mg s = some (.ref (T.cl c))) (ha : PE X e (rdE T x)) (hd : (s == ("__debug__" : Str)) = false := by decide)
    (hs1 : starEach [e, .Name s p2] X.env = (false, eval e X.env) :: starEach [.Name s p2] X.env := by rfl) (hs2 : starEach [.Name s p2] X.env = (false, eval (.Name s p2) X.env) :: starEach [] X.env := by rfl) (hpl : (backTo pos (starEach [.Name s p2] X.env)).any (·.1) = false := by rfl) :
    PE X (.Call (.Name "isinstance" p) [e, .Name s p2] [] pos) (rdE T (aIsO c x)) := by
  refine (pe_callB call_isi hg hm (by decide +kernel) (pa_cons ha (pa_cons (pe_glob (v := .ref (T.cl c)) hg2 hm2 rfl hd) pa_nil hs2) hs1) (by decide) (by decide) hs1 hpl).mono fun σ H Q h => ?_
  obtain ⟨G, F, δ, P, R, h, k⟩ := h
  refine ⟨G, F, δ, _, R, h, fun w hw v F1 H1 g r => ?_⟩
  split at hw
  · rename_i c' ds
    obtain ⟨rfl, q⟩ := hw
    obtain ⟨a, dx, vs, rfl, hs, hl, rr⟩ := rep_ins r
    exact ⟨_, _, _, _, true, rfl, .own _, .base (.ins (g.ex _ _ hs) I.ins.cl I.ins.ha I.ins.hn I.ins.htk I.ins.hm), I.ins.me, k _ q _ _ _ g (.bl true)⟩
  · rename_i ds
    obtain ⟨a, vs, rfl, hs, rr⟩ := rep_lst r
    exact ⟨_, _, _, _, false, rfl, .own _, .base (.lst (g.ex _ _ hs)), I.kl, k _ hw _ _ _ g (.bl false)⟩
  · rename_i i
    cases rep_int r
    exact ⟨_, _, _, _, false, rfl, .own _, .base (.int i), I.ki, k _ hw _ _ _ g (.bl false)⟩
  · exact hw.elim
end
/-! ### equal data are equal -/
/-- instances of class c within k lists and tuples -/
def lvD (g : List D → Prop) (c : Nat) : Nat → D → Prop
  | 0, d => (match d with
    | .non => True
    | .bl _ => True
    | .int _ => True
    | .str _ => True
    | .ins c' ds => c' = c ∧ g ds
    | _ => False)
  | k + 1, d => lvD g c k d ∨ ∃ ds, (d = .lst ds ∨ d = .tup ds) ∧ ∀ e ∈ ds, lvD g c k e
section
variable {T : Tb} {X : Cx} {c : Nat} {g : List D → Prop}
def RSame (T : Tb) (g : List D → Prop) (c : Nat) (a b : Addr) (H : Hp) : Prop := ∃ ds F, g ds ∧ Same F H ∧ Rep T F (.ref a) (.ins c ds) ∧ Rep T F (.ref b) (.ins c ds)
theorem rsame_mon {a b : Addr} {H H' : Hp} (e : Ext H H') (h : RSame T g c a b H) : RSame T g c a b H' := by
  obtain ⟨ds, F, hg, s, h1, h2⟩ := h
  exact ⟨ds, F, hg, fun a o q => e _ _ (s _ _ q), h1, h2⟩
def DBase (T : Tb) (g : List D → Prop) (c : Nat) : Eqv := fun x y H => DFlat x y H ∨ DIns (T.cl c) (RSame T g c) x y H
def DLev (T : Tb) (g : List D → Prop) (c : Nat) : Nat → Eqv
  | 0 => DBase T g c
  | k + 1 => fun x y H => DLev T g c k x y H ∨ (DList (DLev T g c k) x y H ∨ DTup T.K (DLev T g c k) x y H)
theorem mon_lev : ∀ k, Mon (DLev T g c k)
  | 0 => Mon.or mon_flat (mon_ins fun _ _ _ _ e h => rsame_mon e h)
  | k + 1 => Mon.or (mon_lev k) (Mon.or (mon_list (mon_lev k)) (mon_tup (mon_lev k)))
theorem eqG_lev (hTK : T.K = X.K) {n : Nat} (h : EqG X n (DIns (T.cl c) (RSame T g c))) : ∀ k, EqG X (n + k) (DLev T g c k)
  | 0 => EqG.or (eqG_flat.mono (Nat.zero_le _)) h
  | k + 1 => EqG.or ((eqG_lev hTK h k).mono (Nat.le_succ _)) (EqG.or (eqG_list (mon_lev k) (eqG_lev hTK h k)) (hTK ▸ eqG_tup (mon_lev k) (eqG_lev hTK h k)))
theorem lev_of {F H : Hp} (e : Same F H) : ∀ {k : Nat} {d : D} {x y : V}, lvD g c k d → Rep T F x d → Rep T F y d → DLev T g c k x y H
  | 0, d, x, y, h, rx, ry => by
    cases d with
    | non => cases rep_non rx; cases rep_non ry; exact .inl ⟨rfl, rfl, rfl⟩
    | bl b => cases rep_bl rx; cases rep_bl ry; exact .inl ⟨rfl, rfl, by simp [eqV]⟩
    | int b => cases rep_int rx; cases rep_int ry; exact .inl ⟨rfl, rfl, by simp [eqV]⟩
    | str b => cases rep_str rx; cases rep_str ry; exact .inl ⟨rfl, rfl, by simp [eqV]⟩
    | ins c' ds =>
      obtain ⟨h, hg⟩ : c' = c ∧ g ds := h
      subst h
      obtain ⟨a, dx, vs, rfl, h1, _, _⟩ := rep_ins rx
      obtain ⟨b, dy, ws, rfl, h2, _, _⟩ := rep_ins ry
      exact .inr ⟨a, b, dx, dy, _, _, rfl, rfl, e _ _ h1, e _ _ h2, ds, F, hg, e, rx, ry⟩
    | tup ds => exact h.elim
    | lst ds => exact h.elim
    | dct t ks ds => exact h.elim
    | scr ns => exact h.elim
  | k + 1, d, x, y, h, rx, ry => by
    rcases h with h | ⟨ds, hd, h⟩
    · exact .inl (lev_of e h rx ry)
    · have prs : ∀ {vs ws : List V} {ds : List D}, (∀ d ∈ ds, lvD g c k d) → Reps T F vs ds → Reps T F ws ds → Prs (DLev T g c k) vs ws H := by
        intro vs ws ds
        induction ds generalizing vs ws with
        | nil => intro _ r1 r2; cases r1; cases r2; exact Prs.nil
        | cons d ds ih =>
          intro hd r1 r2
          cases r1 with
          | cons p1 t1 =>
            cases r2 with
            | cons p2 t2 => exact Prs.cons (lev_of e (hd d List.mem_cons_self) p1 p2) (ih (fun d q => hd d (List.mem_cons_of_mem _ q)) t1 t2)
      rcases hd with rfl | rfl
      · obtain ⟨a, vs, rfl, h1, r1⟩ := rep_lst rx
        obtain ⟨b, ws, rfl, h2, r2⟩ := rep_lst ry
        exact .inr (.inl ⟨a, b, vs, ws, rfl, rfl, e _ _ h1, e _ _ h2, prs h r1 r2⟩)
      · obtain ⟨a, vs, rfl, h1, r1⟩ := rep_tup rx
        obtain ⟨b, ws, rfl, h2, r2⟩ := rep_tup ry
        exact .inr (.inr ⟨a, b, vs, ws, rfl, rfl, SqT.of (e _ _ h1), SqT.of (e _ _ h2), prs h r1 r2⟩)
def rNeG (D : Eqv) : R2 := fun x y H Q => DList D x y H ∧ ∀ H', Ext H H' → Q (.bl false) H'
theorem op_neG {n : Nat} {D : Eqv} (hD : Mon D) (h : EqG X n D) (hr : Room (n + 1) X.A) : OpR X (compareOp .NotEq) (rNeG D) := by
  intro pins s σ H x y v u Q I rx ry hq
  obtain ⟨⟨a, b, xs, ys, rfl, rfl, ha, hb, p⟩, q⟩ := hq
  cases rx
  cases ry
  show wpAny (model X.prog X.w) X.A (richCompare .NotEq (.ref a) (.ref b)) (EP X pins σ Q) X.xe s
  refine GQ.rc_nlistG (N := xs.length) hr.units0 (fun _ s' => LoopI X pins σ H s') (fun i s' q => ?_) (fun s' q2 => ?_) ⟨H, I, Ext.rfl'⟩
  · obtain ⟨H1, I1, e1⟩ := id q
    obtain ⟨z, its, k, r, e⟩ := I1.hok a _ (e1 _ _ ha)
    obtain ⟨z2, its2, k2, r2, e2⟩ := I1.hok b _ (e1 _ _ hb)
    refine ⟨its.toArray, its2.toArray, k, k2, e, e2, by rw [List.size_toArray, ← r.length], by rw [List.size_toArray, ← r2.length, ← p.1], fun h1 h2 => ?_⟩
    exact turnG hD h ⟨hr, rfl⟩ p r r2 i h1 h2 s' q
  · obtain ⟨H1, I1, e1⟩ := q2
    exact ⟨.bl false, H1, I1, rfl, q H1 e1⟩
/-- xs != ys where the data are equal -/
def dNeS (g : List D → Prop) (c k : Nat) : W → W → (W → Prop) → Prop := fun x y Q => match itemsC x, itemsC y with
  | some ds, some es => ds = es ∧ (∀ d ∈ ds, lvD g c k d) ∧ Q (.cl (.bl false))
  | _, _ => False
theorem b_neS {k : Nat} : Bin2 T (rNeG (DLev T g c k)) (dNeS g c k) := by
  intro G F H F' H' x y u w P Q go rx ry h kk
  unfold dNeS at h
  split at h
  · rename_i ds es h1 h2
    obtain ⟨rfl, hl, q⟩ := h
    obtain ⟨a, vs, rfl, ha, ra⟩ := rx.items go.ex h1
    obtain ⟨b, ws, rfl, hb, rb⟩ := ry.items go.ex h2
    have prs : ∀ {vs ws : List V} {ds : List D}, (∀ d ∈ ds, lvD g c k d) → Reps T F' vs ds → Reps T F' ws ds → Prs (DLev T g c k) vs ws H' := by
      intro vs ws ds
      induction ds generalizing vs ws with
      | nil => intro _ r1 r2; cases r1; cases r2; exact Prs.nil
      | cons d ds ih =>
        intro hd r1 r2
        cases r1 with
        | cons p1 t1 =>
          cases r2 with
          | cons p2 t2 => exact Prs.cons (lev_of go.ex (hd d List.mem_cons_self) p1 p2) (ih (fun d q => hd d (List.mem_cons_of_mem _ q)) t1 t2)
    refine ⟨⟨a, b, vs, ws, rfl, rfl, ha, hb, prs hl ra rb⟩, fun H2 e => kk _ q _ F' H2 (go.trans ⟨e, Same.refl _, fun a o z => e _ _ (go.ex _ _ z), fun _ _ => rfl⟩) (.bl false)⟩
  · exact h.elim
/-- from the contract of __eq__ -/
theorem eqG_of {ct : Ct} {f : Addr} {fd : FuncData} {ps : List Str} {n : Nat} (Fn : FnOk X.prog X.w X.K X.mg X.base CX0 n f fd ps (spC T ct)) (hct : ∀ ds Q, g ds → Q (.cl (.bl true)) → ct [.cl (.ins c ds), .cl (.ins c ds)] Q)
    (hm : Meth X.K (T.cl c) "__eq__" f) (hb : Binds X.K fd ps []) : EqG X n (DIns (T.cl c) (RSame T g c)) :=
  eqG_ins (E := E0) (Fn.imp fun vs H Q E h => by
    obtain ⟨a, b, rfl, ⟨ds, F, hg, s, r1, r2⟩, k⟩ := h
    exact ⟨⟨H, H, []⟩, F, [.cl (.ins c ds), .cl (.ins c ds)], fun w => w = .cl (.bl true), s, .cons r1 (.cons r2 .nil), hct ds _ hg rfl, fun w hw v F' H' g r => by
      subst hw
      cases r
      exact k H' g.h⟩) hm.at_ hm.fn hb pass0
theorem op_neS (hTK : T.K = X.K) {ct : Ct} {f : Addr} {fd : FuncData} {ps : List Str} {n k m : Nat} (Fn : FnOk X.prog X.w X.K X.mg X.base CX0 n f fd ps (spC T ct)) (hct : ∀ ds Q, g ds → Q (.cl (.bl true)) → ct [.cl (.ins c ds), .cl (.ins c ds)] Q)
    (hm : Meth X.K (T.cl c) "__eq__" f) (hb : Binds X.K fd ps []) (hr : Room m X.A) (hmn : n + k + 1 ≤ m) : OpR X (compareOp .NotEq) (rNeG (DLev T g c k)) :=
  op_neG (mon_lev k) (eqG_lev hTK (eqG_of Fn hct hm hb) k) (hr.mono hmn)
end
end Vl
/-! Dicts whose keys are tuples of ints and texts, or ints and texts. -/
namespace Vl
open PySem PySem.Spec PyProof.Rows L2

section
variable {κ : Type} [DecidableEq κ] {T : Tb} {F : Hp}
def valD (kvs : List (κ × D)) (k : κ) : Option D := (kvs.find? fun kv => decide (kv.1 = k)).map (·.2)
def putD (kvs : List (κ × D)) (k : κ) (v : D) : List (κ × D) :=
  if (kvs.any fun kv => decide (kv.1 = k)) = true then kvs.map (fun kv => if kv.1 = k then (kv.1, v) else kv) else kvs ++ [(k, v)]
/-- a dict of the heap and its data -/
def Pairs2 (T : Tb) (F : Hp) (hk : List (κ × V)) (kvs : List (κ × D)) : Prop := hk.map (·.1) = kvs.map (·.1) ∧ Reps T F (hk.map (·.2)) (kvs.map (·.2))
theorem Pairs2.val {k : κ} : ∀ {hk : List (κ × V)} {kvs : List (κ × D)}, Pairs2 T F hk kvs → (valV hk k = none ∧ valD kvs k = none) ∨ ∃ v d, valV hk k = some v ∧ valD kvs k = some d ∧ Rep T F v d
  | [], [], _ => .inl ⟨rfl, rfl⟩
  | [], _ :: _, h => by simp [Pairs2] at h
  | _ :: _, [], h => by simp [Pairs2] at h
  | (a, v) :: hk, (b, d) :: kvs, ⟨h1, h2⟩ => by
    simp only [List.map_cons, List.cons.injEq] at h1
    obtain ⟨rfl, h1⟩ := h1
    simp only [List.map_cons] at h2
    cases h2 with
    | cons r t =>
      by_cases e : a = k
      · exact .inr ⟨v, d, valV_pos (p := (a, v)) e, by simp [valD, List.find?_cons, e], r⟩
      · have := Pairs2.val (k := k) (hk := hk) (kvs := kvs) ⟨h1, t⟩
        rw [valV_neg (p := (a, v)) e, show valD ((a, d) :: kvs) k = valD kvs k by simp [valD, List.find?_cons, e]]
        exact this
theorem Pairs2.any {k : κ} {hk : List (κ × V)} {kvs : List (κ × D)} (h : Pairs2 T F hk kvs) : (hk.any fun kv => decide (kv.1 = k)) = (kvs.any fun kv => decide (kv.1 = k)) := by
  have e1 : (hk.any fun kv => decide (kv.1 = k)) = (hk.map (·.1)).any fun x => decide (x = k) := by rw [List.any_map]; rfl
  have e2 : (kvs.any fun kv => decide (kv.1 = k)) = (kvs.map (·.1)).any fun x => decide (x = k) := by rw [List.any_map]; rfl
  rw [e1, e2, h.1]
theorem Pairs2.setAll {k : κ} {v : V} {d : D} (r : Rep T F v d) : ∀ {hk : List (κ × V)} {kvs : List (κ × D)}, Pairs2 T F hk kvs → Pairs2 T F (hk.map fun kv => if kv.1 = k then (kv.1, v) else kv) (kvs.map fun kv => if kv.1 = k then (kv.1, d) else kv)
  | [], [], _ => ⟨rfl, .nil⟩
  | [], _ :: _, h => by simp [Pairs2] at h
  | _ :: _, [], h => by simp [Pairs2] at h
  | (a, w) :: hk, (b, e) :: kvs, ⟨h1, h2⟩ => by
    simp only [List.map_cons, List.cons.injEq] at h1
    obtain ⟨rfl, h1⟩ := h1
    simp only [List.map_cons] at h2
    cases h2 with
    | cons r2 t =>
      obtain ⟨i1, i2⟩ := Pairs2.setAll r (hk := hk) (kvs := kvs) ⟨h1, t⟩
      rw [List.map_cons, List.map_cons]
      by_cases q : a = k
      · rw [if_pos q, if_pos q]
        exact ⟨by rw [List.map_cons, List.map_cons, i1], .cons r i2⟩
      · rw [if_neg q, if_neg q]
        exact ⟨by rw [List.map_cons, List.map_cons, i1], .cons r2 i2⟩
theorem Pairs2.put {k : κ} {v : V} {d : D} {hk : List (κ × V)} {kvs : List (κ × D)} (h : Pairs2 T F hk kvs) (r : Rep T F v d) : Pairs2 T F (putK hk k v) (putD kvs k d) := by
  unfold putK putD
  rw [h.any (k := k)]
  split
  · exact h.setAll r
  · exact ⟨by rw [List.map_append, List.map_append, h.1]; rfl, by rw [List.map_append, List.map_append]; exact h.2.append (.cons r .nil)⟩
end
end Vl
namespace Vl
open PySem PySem.Spec PyProof.Rows L2
/-! ### keys that are tuples -/
def encT (k : List Key) : D := .tup (k.map keyD)
theorem keyD_inj : ∀ {a b : Key}, keyD a = keyD b → a = b
  | .inl i, .inl j, h => by cases h; rfl
  | .inr i, .inr j, h => by cases h; rfl
  | .inl _, .inr _, h => nomatch h
  | .inr _, .inl _, h => nomatch h
theorem encT_inj {a b : List Key} (h : encT a = encT b) : a = b := by
  have h1 : a.map keyD = b.map keyD := by unfold encT at h; injection h
  exact List.map_inj_right (fun _ _ => keyD_inj) |>.mp h1
theorem rep_key {T : Tb} {F : Hp} {v : V} {k : Key} (h : Rep T F v (keyD k)) : v = kV k := by
  cases k with
  | inl i => exact rep_int h
  | inr x => exact rep_str h
theorem reps_keys {T : Tb} {F : Hp} : ∀ {vs : List V} {ks : List Key}, Reps T F vs (ks.map keyD) → vs = ks.map kV
  | _, [], .nil => rfl
  | _, k :: ks, .cons r t => by rw [rep_key r, reps_keys t]; rfl
theorem rep_encT {T : Tb} {F : Hp} {v : V} {k : List Key} (h : Rep T F v (encT k)) : ∃ b, v = .ref b ∧ F b = some (.tup (k.map kV)) := by
  obtain ⟨b, vs, rfl, hb, r⟩ := rep_tup h
  exact ⟨b, rfl, by rw [hb, reps_keys r]⟩
/-- the dict of data whose keys and values these are -/
def dT (kvs : List (List Key × D)) : M := .fd true (kvs.map fun p => encT p.1) (kvs.map (·.2))
theorem mobj_dT {T : Tb} {F : Hp} {kvs : List (List Key × D)} {o : HO} (h : MObj T F (dT kvs) o) : ∃ hk : List (List Key × V), o = .dT hk ∧ Pairs2 T F hk kvs := by
  obtain ⟨hk, e, ek, r⟩ := h
  refine ⟨hk, e, ?_, r⟩
  have e2 : (kvs.map (·.1)).map encT = (hk.map (·.1)).map encT := by rw [List.map_map, List.map_map]; exact ek
  exact (List.map_inj_right (fun _ _ => encT_inj) |>.mp e2).symm
theorem mobj_of_dT {T : Tb} {F : Hp} {kvs : List (List Key × D)} {hk : List (List Key × V)} (h : Pairs2 T F hk kvs) : MObj T F (dT kvs) (.dT hk) := by
  refine ⟨hk, rfl, ?_, h.2⟩
  have e : (kvs.map (·.1)).map encT = (hk.map (·.1)).map encT := by rw [h.1]
  rw [List.map_map, List.map_map] at e
  exact e
end Vl
namespace Vl
open PySem PySem.Spec PyProof.Rows L2
/-! ### {}, d[k] = v, d.get(k, x) -/
def aDNewT : AE := fun _ Q => Q (.fr (dT []))
def aDPut (i : Nat) (ky e : AE) : AS := fun E δ => match gt δ i with
  | .ow l (.fd true ks ds) => e δ fun w => ky δ fun z => match clW w, clW z with
    | some d, some kd => ∃ kvs key, M.fd true ks ds = dT kvs ∧ kd = encT key ∧ kvs.length < 1000000 ∧ E.nx (δ.set i (.ow l (dT (putD kvs key d))))
    | _, _ => False
  | _ => False
section
variable {T : Tb} {X : Cx} {pos pos' : Pos} {i : Nat} {e ki o : Expr} {x kk : AE}
theorem e_dnewT : PE X (.Dict [] [] pos) (rdE T aDNewT) := pe_dnewT.mono fun σ H Q h => by
  obtain ⟨G, F, δ, P, R, h, k⟩ := h
  intro p hp
  exact k _ h _ F _ ((Go.refl R.ex).lay hp) ⟨p, rfl, hp, R.ex.free hp, _, upd_same, [], rfl, rfl, .nil⟩
theorem s_dput (hu : X.A.units + 1 < cLine) (ho : PE X o (tVar i)) (hi : PE X ki (rdE T kk)) (hv : PE X e (rdE T x)) (hs : swapsWith e (some (.Subscript o ki pos')) pos.line X.env = pure false := by rfl) :
    PS X (.Assign [.Subscript o ki pos'] e pos) (rdS T (aDPut i kk x)) := (ps_dput hu ho hi hv hs).mono fun D' σ H h => by
  obtain ⟨G, F, δ, E, R, h, k⟩ := h
  unfold aDPut at h
  split at h
  · rename_i l ks ds hg
    refine ⟨G, F, δ, _, R, h, fun w hw v F1 H1 g r1 => ?_⟩
    have q := (R.go g).sl i
    rw [hg] at q
    obtain ⟨p, e1, _, ow⟩ := q
    refine ⟨.ref p, gs_some e1, G, F1, δ, _, R.go g, hw, fun z hz kv F2 H2 g2 r2 => ?_⟩
    split at hz
    · rename_i d kd hd hkd
      obtain ⟨kvs, key, em, rfl, hlen, hq⟩ := hz
      obtain ⟨F4, g4, rk⟩ := clW_rep g2 r2 hkd
      obtain ⟨F3, g3, _, sm, r3, _⟩ := RepW.arg (g.trans g4) (r1.go g4)
      have hd' : argW w = .cl d := by
        unfold clW at hd
        split at hd
        · rename_i d' hd2
          cases hd
          exact hd2
        · cases hd
      rw [hd'] at r3
      have R3 := R.go g3
      have q3 := R3.sl i
      rw [hg] at q3
      obtain ⟨p', e2, _, ow3⟩ := q3
      rw [e1] at e2
      cases e2
      obtain ⟨ob, hob, mo⟩ := ow3.ob
      rw [em] at mo
      obtain ⟨hk, rfl, pr⟩ := mobj_dT mo
      obtain ⟨b, rfl, hb⟩ := rep_encT (Rep.mono sm rk)
      have hl2 : hk.length = kvs.length := by have := congrArg List.length pr.1; simpa using this
      exact ⟨p, _, rfl, DPut.t hob (g3.ex _ _ hb) (by rw [hl2]; exact dSz_lt hlen), k.nx _ hq F3 _ σ g3.f (R3.mut hg e1 (mobj_of_dT (pr.put r3)))⟩
    · exact hz.elim
  · exact h.elim
end
end Vl
namespace Vl
open PySem PySem.Spec PyProof.Rows L2
def dctC : W → Option (List D × List D)
  | .cl (.dct true ks ds) => some (ks, ds)
  | .bw (.fd true ks ds) => some (ks, ds)
  | .ow (.fd true ks ds) => some (ks, ds)
  | _ => none
def aDGet (o ky z : AE) : AE := fun δ Q => o δ fun w => match dctC w with
  | some (ks, ds) => ky δ fun kw => z δ fun zw => match clW kw with
    | some kd => ∃ kvs key, M.fd true ks ds = dT kvs ∧ kd = encT key ∧ ((∃ d, valD kvs key = some d ∧ Q (.cl d)) ∨ (valD kvs key = none ∧ Q zw))
    | none => False
  | none => False
section
variable {T : Tb} {G : Gx} {Hs F H : Hp} {v : V} {w : W} {ks ds : List D}
theorem RepW.dct (e : Same F H) (h : RepW T G Hs F H v w) (k : dctC w = some (ks, ds)) : ∃ p o, v = .ref p ∧ H p = some o ∧ MObj T F (.fd true ks ds) o := by
  unfold dctC at k
  split at k
  · cases k
    cases h with
    | dT q l r => exact ⟨_, _, rfl, e _ _ q, _, rfl, l, r⟩
  · cases k
    obtain ⟨p, rfl, _, _, _, o, q, m⟩ := h
    exact ⟨p, o, rfl, q, m⟩
  · cases k
    obtain ⟨p, rfl, _, o, q, m⟩ := h
    exact ⟨p, o, rfl, q, m⟩
  · cases k
variable {X : Cx} {o ki e : Expr} {x kk zz : AE} {apos cpos : Pos}
theorem e_dget (hu : X.A.units + 1 < cLine) (ho : PE X o (rdE T x)) (hk : PE X ki (rdE T kk)) (hz : PE X e (rdE T zz)) (m : M2 X o "get" apos ki e cpos) : PE X (.Call (.Attribute o "get" apos) [ki, e] [] cpos) (rdE T (aDGet x kk zz)) :=
  (pe_dget2 hu ho hk hz m).mono fun σ H Q h => by
    obtain ⟨G, F, δ, P, R, h, k⟩ := h
    refine ⟨G, F, δ, _, R, h, fun w hw v F1 H1 g r1 => ?_⟩
    split at hw
    · rename_i ks ds hd
      obtain ⟨p, ob, rfl, hp, mo⟩ := r1.dct g.ex hd
      obtain ⟨hk0, e0, _, _⟩ := id mo
      refine ⟨p, rfl, .inr ⟨hk0, .inl (e0 ▸ hp)⟩, G, F1, δ, _, R.go g, hw, fun kw hkw kv F2 H2 g2 r2 => ?_⟩
      refine ⟨G, F2, δ, _, (R.go g).go g2, hkw, fun zw hzw zv F3 H3 g3 r3 => ?_⟩
      split at hzw
      · rename_i kd hkd
        obtain ⟨kvs, key, em, rfl, hq⟩ := hzw
        obtain ⟨F4, g4, rk⟩ := clW_rep (g2.trans g3) (r2.go g3) hkd
        obtain ⟨b, rfl, hb⟩ := rep_encT rk
        have mo3 := mo.mono (g2.trans g3).f
        rw [em] at mo3
        obtain ⟨hk, rfl, pr⟩ := mobj_dT mo3
        have gd := DGet.t ((g2.trans g3).h _ _ hp) (g4.ex _ _ hb)
        refine ⟨_, gd, ?_⟩
        rcases pr.val (k := key) with ⟨e1, e2⟩ | ⟨v1, d1, e1, e2, rv⟩
        · rw [e1]
          rcases hq with ⟨d, e3, _⟩ | ⟨_, q⟩
          · rw [e2] at e3; cases e3
          · exact k _ q zv F3 H3 (g.trans (g2.trans g3)) (r3.back (g.trans g2).h)
        · rw [e1]
          rcases hq with ⟨d, e3, q⟩ | ⟨e3, _⟩
          · rw [e2] at e3; cases e3
            exact k _ q v1 F3 H3 (g.trans (g2.trans g3)) rv
          · rw [e2] at e3; cases e3
      · exact hzw.elim
    · exact hw.elim
end
end Vl
/-! x == y by the text's own __eq__, whatever it answers. -/
namespace Vl
open PySem PySem.Spec PyProof.Rows L2
def rOwn (K : PySem.W.Frag) (C : Addr) (sp : Sp) (E : XK) : R2 := fun x y H Q => ∃ a dx fs t, x = .ref a ∧ H a = some (.ins C dx fs) ∧ TyX K H y t ∧ PySem.W.notFirst K C t = true ∧ sp [x, y] H (fun v H' => (∃ b, v = .bl b) ∧ Q v H') E
section
variable {X : Cx} {CX : CXT} {C f : Addr} {fd : FuncData} {ps : List Str} {sp : Sp} {E : XK} {n : Nat}
theorem op_own (F : FnOk X.prog X.w X.K X.mg X.base CX n f fd ps sp) (hm : Meth X.K C "__eq__" f) (hb : Binds X.K fd ps []) (hx : Passes CX X E) (hr : Room n X.A) : OpR X (compareOp .Eq) (rOwn X.K C sp E) := by
  intro pins s σ H x y v u Q I rx ry hq
  obtain ⟨a, dx, fs, t, rfl, ha, ty, nf, hsp⟩ := hq
  cases rx
  show wpAny (model X.prog X.w) X.A (richCompare .Eq (.ref a) u) (EP X pins σ Q) X.xe s
  obtain ⟨mA, J, _⟩ := ins_get I.hok ha
  obtain ⟨od, J, _⟩ := J.look
  obtain ⟨m, hF⟩ := I.fr
  obtain ⟨P, Z, pz, _⟩ := kit_of I ry ty
  refine PySem.W.cmp_K (op := .Eq) (tb := t) hr.units0 hF I.ok.mod.kin J (Z.ty _ _ I.kIn pz) nf hm.at_ hm.fn ?_
  have hl := F.len _ _ _ _ hsp
  have r2 : Vals [V.ref a, y] [Value.ref a, u] := .cons rfl (.cons ry .nil)
  refine wpAny_call (codeAny_mono (F.run X.A X.stack s H ⟨[.ref a, u], []⟩ [.ref a, u] [.ref a, y] _ E hr I.env0 (by
    have := hb s [.ref a, u] I.kIn (by simpa using hl)
    simpa using this) r2 hsp) fun r s' hq => ?_)
  cases r with
  | error e => exact hx pins σ H s e s' I hq
  | ok fl =>
    cases fl with
    | ret w =>
      obtain ⟨z, H', I', rz, ⟨b, ez⟩, q⟩ := I.after hq
      subst ez
      cases rz
      exact ⟨.bl b, H', I', rfl, q⟩
    | next => exact False.elim hq
    | brk => exact False.elim hq
    | cont => exact False.elim hq
end
/-- what == asks of an own class beside -/
structure EqOk (K : PySem.W.Frag) (C : Addr) : Prop where
  ins : C8.InsC K C
  sl : PySem.W.subIn K (.type "list") (.ref C) = some false
  si : PySem.W.subIn K (.type "int") (.ref C) = some false
def dEqO (c : Nat) (ct : Ct) : W → W → (W → Prop) → Prop := fun x y Q => match x, y with
  | .cl (.ins c' ds), .cl (.ins c2 es) => (c' = c ∧ c2 = c) ∧ ct [.cl (.ins c' ds), .cl (.ins c2 es)] fun w => ∃ b, w = .cl (.bl b) ∧ Q w
  | .cl (.ins c' ds), .cl (.lst es) => c' = c ∧ ct [.cl (.ins c' ds), .cl (.lst es)] fun w => ∃ b, w = .cl (.bl b) ∧ Q w
  | .cl (.ins c' ds), .cl (.int i) => c' = c ∧ ct [.cl (.ins c' ds), .cl (.int i)] fun w => ∃ b, w = .cl (.bl b) ∧ Q w
  | _, _ => False
theorem b_eqO {T : Tb} {c : Nat} {ct : Ct} (I : EqOk T.K (T.cl c)) : Bin2 T (rOwn T.K (T.cl c) (spC T ct) E0) (dEqO c ct) := by
  intro G F H F' H' x y u w P Q go rx ry h k
  have fin : ∀ {us : List V} {ws : List W}, RepAs T G F' H' us ws → ct ws (fun w => ∃ b, w = .cl (.bl b) ∧ P w) → spC T ct us H' (fun v H' => (∃ b, v = .bl b) ∧ Q v H') E0 := fun {us ws} r hc =>
    ⟨G, F', ws, _, go.ex, r, hc, fun w hw v F2 H2 g2 r2 => by
      obtain ⟨b, rfl, q⟩ := hw
      cases r2
      exact ⟨⟨b, rfl⟩, k _ q _ F2 H2 (go.trans g2) (.bl b)⟩⟩
  unfold dEqO at h
  split at h
  · rename_i c' ds c2 es
    obtain ⟨⟨rfl, rfl⟩, hc⟩ := h
    obtain ⟨a, dx, vs, rfl, ha, _, _⟩ := rep_ins rx
    obtain ⟨b, dy, ws, rfl, hb, _, _⟩ := rep_ins ry
    exact ⟨a, dx, _, _, rfl, go.ex _ _ ha, .base (.ins (go.ex _ _ hb) I.ins.cl I.ins.ha I.ins.hn I.ins.htk I.ins.hm), by simp [PySem.W.notFirst], fin (.cons (w := .cl (.ins c2 ds)) rx (.cons (w := .cl (.ins c2 es)) ry .nil)) hc⟩
  · rename_i c' ds es
    obtain ⟨rfl, hc⟩ := h
    obtain ⟨a, dx, vs, rfl, ha, _, _⟩ := rep_ins rx
    obtain ⟨b, ws, rfl, hb, _⟩ := rep_lst ry
    exact ⟨a, dx, _, _, rfl, go.ex _ _ ha, .base (.lst (go.ex _ _ hb)), by simp [PySem.W.notFirst, I.sl], fin (.cons (w := .cl (.ins c' ds)) rx (.cons (w := .cl (.lst es)) ry .nil)) hc⟩
  · rename_i c' ds i
    obtain ⟨rfl, hc⟩ := h
    obtain ⟨a, dx, vs, rfl, ha, _, _⟩ := rep_ins rx
    cases rep_int ry
    exact ⟨a, dx, _, _, rfl, go.ex _ _ ha, .base (.int i), by simp [PySem.W.notFirst, I.si], fin (.cons (w := .cl (.ins c' ds)) rx (.cons (w := .cl (.int i)) (.int i) .nil)) hc⟩
  · exact h.elim
end Vl
namespace Vl
open PySem PySem.Spec PyProof.Rows L2
/-- numbers that are drawn: any in their bounds -/
def c__law_draw : Ct := fun ws Q => ∃ c n b : Int, ws = [.cl (.int c), .cl (.int n), .cl (.int b)] ∧ (0 ≤ n ∧ n ≤ 1000) ∧ 0 < b ∧ b < 1073741824 ∧
  ∀ xs : List Int, xs.length = n.toNat → (∀ x ∈ xs, 0 ≤ x ∧ x < b) → Q (.fr (.fl (xs.map .int)))
theorem l__law_draw : ∀ ws P, c__law_draw ws P → ws.length = 3 := by rintro ws P ⟨c, n, b, rfl, _⟩; rfl
def cellN (ns : List Int) (k : Int) : Int := ns.getD k.toNat 0
def c__law_cell : Ct := fun ws Q => ∃ (ns : List Int) (k : Int), ws = [.cl (.scr ns), .cl (.int k)] ∧ 0 ≤ k ∧ Q (.cl (.int (cellN ns k)))
theorem l__law_cell : ∀ ws P, c__law_cell ws P → ws.length = 2 := by rintro ws P ⟨ns, k, rfl, _⟩; rfl
def c__law_is_integer : Ct := fun ws Q => ∃ d, ws = [.cl d] ∧ ((∃ i, d = .int i ∧ Q (.cl (.bl true))) ∨ (d = .non ∧ Q (.cl (.bl false))) ∨ (∃ b, d = .bl b ∧ Q (.cl (.bl false))))
theorem l__law_is_integer : ∀ ws P, c__law_is_integer ws P → ws.length = 1 := by rintro ws P ⟨d, rfl, _⟩; rfl
end Vl
local macro_rules | `(tactic| walk_at "vs") => `(tactic| simp only [Vl.aSeq, Vl.aFor_eq, Vl.aIf, Vl.aB, Vl.aBin, Vl.aUn, Vl.aV, Vl.slotW, Vl.gt_z, Vl.gt_s, Vl.aCB, Vl.aCall, Vl.aCons, Vl.aNil, Vl.argW, Vl.dLt_eq, Vl.dLe_eq, Vl.dGt_eq, Vl.dGe_eq, Vl.dI0, Vl.dI, Vl.dAdd, Vl.dSub_eq, Vl.dMul, Vl.dDiv_eq, Vl.dMod_eq, Vl.dPow_eq, Vl.dShl_eq, Vl.dNeg, Vl.dNot, Vl.dIsN, Vl.dNotN, Vl.dEq, Vl.dNe, Vl.dIn, Vl.dIx, Vl.fLen_lst, Vl.fLen_tup, Vl.fLen_ow, Vl.fLen_bw, Vl.fLen_scr, Vl.fLen_str, Vl.fInt_int, Vl.fInt_bl, Vl.fAbs_int, Vl.fMax_int, Vl.fMin_int, Vl.fGcd_int, Vl.fLcm_int, Vl.fList_lst, Vl.fList_tup, Vl.fList_ow, Vl.fList_bw, Vl.fList_scr, Vl.seqC, Vl.lstC, Vl.itemsC, Vl.clW, Vl.W.toD, Vl.M.toD, Vl.clDs, Option.map_some, Option.map_none,
  Vl.aRet, Vl.aRetV, Vl.aRetN, Vl.aNext, Vl.aBreak, Vl.aCont, Vl.aC, Vl.aSet, Vl.aSetC, Vl.slotA, Vl.aDrop, Vl.aAsgG, Vl.agN, Vl.agT, Vl.agCons, Vl.agNil, Vl.iLst, Vl.iTup, Vl.iR1, Vl.iR2, Vl.aTup, Vl.aLst, Vl.aAnd, Vl.aOr, Vl.aNot, Vl.aAndV, Vl.aOrV, Vl.aIfE, Vl.aSl, Vl.aoS, Vl.aoN, Vl.aChain, Vl.aAugAdd, Vl.aAugSub, Vl.aMut, Vl.aMutS, Vl.mAppend, Vl.mPop, Vl.mPopAt, Vl.mReverse, Vl.tyM, Vl.aFrz, Vl.frz, Vl.aSetIx, Vl.aLc, Vl.wipeA, Vl.aYes,
  List.set_cons_zero, List.set_cons_succ, List.length_map, List.length_cons, List.length_nil, decide_eq_true_eq, Bool.not_true, Bool.not_false, if_true, if_false, Bool.false_eq_true, Vl.okD_int, Vl.okD_bl, Vl.okD_non, Vl.eqD_int, Vl.eqD_bl, Vl.eqD_non, true_and, and_true, Vl.snoc_int, Vl.aIsi, Vl.isi_bl_bool, Vl.isi_bl_int, Vl.isi_int_int, Vl.isi_int_bool, Vl.isi_non_int, Vl.isi_non_bool, Vl.isi_lst_list, Vl.isi_tup_list, Vl.isi_tup_tuple, Vl.isi_non_tuple, Vl.isi_non_list, Vl.isi_str_str, Vl.isi_lst_bool, Vl.isi_str_bool, Vl.isi_tup_bool, Vl.ixD_0, Vl.ixD_1, Vl.ixD_2, Vl.ixD_3, Vl.ixD_4, Vl.ixD_5, Vl.ixD_6, Vl.ixD_7, Vl.ixD_8, Vl.ixD_9, Vl.ixD_10, Vl.ixD_11, Vl.aFld, Vl.aMeth, Vl.aMake, Vl.aMakeK, Vl.mInsert, Vl.aIndex, Vl.fMax1_eq, Vl.fSorted_eq, List.getElem?_cons_zero, List.getElem?_cons_succ, List.cons_append, List.nil_append, Vl.aPar, Vl.aIsO, Vl.dNeS, Vl.aDNewT, Vl.dEqO, Vl.aDPut, Vl.aDGet, Vl.dctC])
namespace Vl
open PySem PySem.Spec PyProof.Rows L2
/-- _law_cell: slots 0=_law_script 1=_law_k -/
def a__law_cell : AS :=
  aSeq (aIf (aB (aBin (dLt) (aV 1) (aCB fLen1 (aCons (aV 0) (aNil))))) (aRet (aBin dIx (aV 0) (aV 1))) (aNext)) (aRet (aC (.int 0)))
theorem w__law_cell : ∀ ws P, c__law_cell ws P → a__law_cell { nx := fun _ => P (.cl .non), rt := fun w _ => P w } (startA 2 ws) := by
  rintro ws P ⟨ns, k, rfl, hk, h⟩
  show a__law_cell _ [.im (.scr ns), .im (.int k)]
  unfold a__law_cell
  walk_at "vs"
  split
  · rename_i hl
    have e : ixD (ns.map D.int) k = some (.int (cellN ns k)) := by
      have hk2 : k.toNat < ns.length := by omega
      unfold ixD cellN
      rw [if_pos hk, List.getElem?_map, List.getElem?_eq_getElem hk2, List.getD_eq_getElem?_getD, List.getElem?_eq_getElem hk2]
      rfl
    rw [e]; exact h
  · rename_i hl
    have e : cellN ns k = 0 := by
      unfold cellN
      rw [List.getD_eq_getElem?_getD, List.getElem?_eq_none_iff.mpr (by omega)]
      rfl
    rw [e] at h; exact h
/-- _law_draw: slots 0=_law_cell_here 1=_law_many 2=_law_bound 3=_law_numbers 4=_law_k 5=_law_seed 6=_law_mixed -/
def a__law_draw : AS :=
  aSeq (aSet 3 (aLst (aNil))) (aSeq (aIf (aB (aBin (dGe) (aV 0) (aBin dPow (aC (.int 10)) (aC (.int 18))))) (aSeq (aFor (iR1 (aCons (aV 1) (aNil))) (agN 4) (aSeq (aMut "list" 3 mAppend (aCons (aBin dMod (aCB fInt (aCons (aV 0) (aNil))) (aV 2)) (aNil))) (aSetC 0 (aBin dDiv (aV 0) (aV 2))))) (aRetV 3)) (aNext)) (aSeq (aSetC 5 (aBin dMod (aCB fInt (aCons (aV 0) (aNil))) (aC (.int 2147483647)))) (aSeq (aFor (iR1 (aCons (aV 1) (aNil))) (agN 4) (aSeq (aSetC 5 (aBin dMod (aCB fInt (aCons (aBin dAdd (aBin dAdd (aBin dMul (aV 5) (aC (.int 48271))) (aC (.int 12345))) (aV 4)) (aNil))) (aC (.int 2147483647)))) (aSeq (aSetC 6 (aBin dMod (aCB fInt (aCons (aBin dAdd (aBin dMul (aV 5) (aC (.int 69621))) (aBin dMul (aC (.int 977)) (aV 4))) (aNil))) (aC (.int 2147483629)))) (aMut "list" 3 mAppend (aCons (aBin dMod (aCB fInt (aCons (aBin dDiv (aV 6) (aC (.int 3))) (aNil))) (aV 2)) (aNil)))))) (aRetV 3))))
theorem w__law_draw : ∀ ws P, c__law_draw ws P → a__law_draw { nx := fun _ => P (.cl .non), rt := fun w _ => P w } (startA 7 ws) := by
  rintro ws P ⟨c, n, b, rfl, ⟨hn0, hn⟩, hb, hb2, h⟩
  show a__law_draw _ [.im (.int c), .im (.int n), .im (.int b), .non, .non, .non, .non]
  unfold a__law_draw
  walk_at "vs"
  have key : ∀ (xs : List Int), (∀ x ∈ xs, 0 ≤ x ∧ x < b) → ∀ y : Int, ∀ x ∈ xs ++ [y % b], 0 ≤ x ∧ x < b := by
    intro xs hx y x hm
    rcases List.mem_append.mp hm with q | q
    · exact hx x q
    · rw [List.mem_singleton.mp q]
      exact ⟨Int.emod_nonneg _ (by omega), Int.emod_lt_of_pos _ hb⟩
  refine ⟨by omega, ⟨by omega, by omega, by decide⟩, ?_⟩
  split
  · refine ⟨by omega, for_up (fun i δ => ∃ (c' : Int) (xs : List Int) (a : AV), δ = [.im (.int c'), .im (.int n), .im (.int b), .ow false (.fl (xs.map .int)), a, .non, .non] ∧ xs.length = i ∧ ∀ x ∈ xs, 0 ≤ x ∧ x < b)
      ⟨c, [], _, rfl, rfl, fun x hx => nomatch hx⟩ ?_ ?_⟩
    · rintro i δ hi ⟨c', xs, a, rfl, hl, hx⟩
      walk_at "vs"
      refine ⟨hb, by omega, ⟨hb, hb2⟩, c' / b, xs ++ [c' % b], _, rfl, by simp [hl], key xs hx c'⟩
    · rintro δ ⟨c', xs, a, rfl, hl, hx⟩
      walk_at "vs"
      exact h xs (by omega) hx
  · refine ⟨by omega, by omega, for_up (fun i δ => ∃ (s : Int) (xs : List Int) (a a' : AV), δ = [.im (.int c), .im (.int n), .im (.int b), .ow false (.fl (xs.map .int)), a, .im (.int s), a'] ∧ xs.length = i ∧ ∀ x ∈ xs, 0 ≤ x ∧ x < b)
      ⟨_, [], _, _, rfl, rfl, fun x hx => nomatch hx⟩ ?_ ?_⟩
    · rintro i δ hi ⟨s, xs, a, a', rfl, hl, hx⟩
      walk_at "vs"
      refine ⟨.inr (by decide), by omega, .inr (by decide), .inl (by decide), by omega, by decide, hb, by omega, _, xs ++ [_ % b], _, _, rfl, by simp [hl], key xs hx _⟩
    · rintro δ ⟨s, xs, a, a', rfl, hl, hx⟩
      walk_at "vs"
      exact h xs (by omega) hx
end Vl
local macro_rules | `(tactic| walk_at "vs") => `(tactic| simp only [Vl.aSeq, Vl.aFor_eq, Vl.aIf, Vl.aB, Vl.aBin, Vl.aUn, Vl.aV, Vl.slotW, Vl.gt_z, Vl.gt_s, Vl.aCB, Vl.aCall, Vl.aCons, Vl.aNil, Vl.argW, Vl.dLt_eq, Vl.dLe_eq, Vl.dGt_eq, Vl.dGe_eq, Vl.dI0, Vl.dI, Vl.dAdd, Vl.dSub_eq, Vl.dMul, Vl.dDiv_eq, Vl.dMod_eq, Vl.dPow_eq, Vl.dShl_eq, Vl.dNeg, Vl.dNot, Vl.dIsN, Vl.dNotN, Vl.dEq, Vl.dNe, Vl.dIn, Vl.dIx, Vl.fLen_lst, Vl.fLen_tup, Vl.fLen_ow, Vl.fLen_bw, Vl.fLen_scr, Vl.fLen_str, Vl.fInt_int, Vl.fInt_bl, Vl.fAbs_int, Vl.fMax_int, Vl.fMin_int, Vl.fGcd_int, Vl.fLcm_int, Vl.fList_lst, Vl.fList_tup, Vl.fList_ow, Vl.fList_bw, Vl.fList_scr, Vl.seqC, Vl.lstC, Vl.itemsC, Vl.clW, Vl.W.toD, Vl.M.toD, Vl.clDs, Option.map_some, Option.map_none,
  Vl.aRet, Vl.aRetV, Vl.aRetN, Vl.aNext, Vl.aBreak, Vl.aCont, Vl.aC, Vl.aSet, Vl.aSetC, Vl.slotA, Vl.aDrop, Vl.aAsgG, Vl.agN, Vl.agT, Vl.agCons, Vl.agNil, Vl.iLst, Vl.iTup, Vl.iR1, Vl.iR2, Vl.aTup, Vl.aLst, Vl.aAnd, Vl.aOr, Vl.aNot, Vl.aAndV, Vl.aOrV, Vl.aIfE, Vl.aSl, Vl.aoS, Vl.aoN, Vl.aChain, Vl.aAugAdd, Vl.aAugSub, Vl.aMut, Vl.aMutS, Vl.mAppend, Vl.mPop, Vl.mPopAt, Vl.mReverse, Vl.tyM, Vl.aFrz, Vl.frz, Vl.aSetIx, Vl.aLc, Vl.wipeA, Vl.aYes,
  List.set_cons_zero, List.set_cons_succ, List.length_map, List.length_cons, List.length_nil, decide_eq_true_eq, Bool.not_true, Bool.not_false, if_true, if_false, Bool.false_eq_true, Vl.okD_int, Vl.okD_bl, Vl.okD_non, Vl.eqD_int, Vl.eqD_bl, Vl.eqD_non, true_and, and_true, Vl.snoc_int, Vl.aIsi, Vl.isi_bl_bool, Vl.isi_bl_int, Vl.isi_int_int, Vl.isi_int_bool, Vl.isi_non_int, Vl.isi_non_bool, Vl.isi_lst_list, Vl.isi_tup_list, Vl.isi_tup_tuple, Vl.isi_non_tuple, Vl.isi_non_list, Vl.isi_str_str, Vl.isi_lst_bool, Vl.isi_str_bool, Vl.isi_tup_bool, Vl.ixD_0, Vl.ixD_1, Vl.ixD_2, Vl.ixD_3, Vl.ixD_4, Vl.ixD_5, Vl.ixD_6, Vl.ixD_7, Vl.ixD_8, Vl.ixD_9, Vl.ixD_10, Vl.ixD_11, Vl.aFld, Vl.aMeth, Vl.aMake, Vl.aMakeK, Vl.mInsert, Vl.aIndex, Vl.fMax1_eq, Vl.fSorted_eq, List.getElem?_cons_zero, List.getElem?_cons_succ, List.cons_append, List.nil_append, Vl.aPar, Vl.aIsO, Vl.dNeS, Vl.aDNewT, Vl.dEqO, Vl.aDPut, Vl.aDGet, Vl.dctC])
namespace Vl
open PySem PySem.Spec PyProof.Rows L2

/-! ### nets as data -/
def kD (b : Bool) : D := .str (if b then "host" else "switch")
abbrev Ln := Int × Int × Int
def lnD (w : Ln) : D := .tup [.int w.1, .int w.2.1, .int w.2.2]
structure NetV where
  ks : List Bool
  ls : List Ln
  pr : Int
  er : Int
def netD (N : NetV) : D := .ins 0 [.lst (N.ks.map kD), .lst (N.ls.map lnD), .int N.pr, .int N.er]
/-- the first line that joins the two -/
def joinL (a b : Int) : List Ln → Option Int
  | [] => none
  | w :: r => if (w.1 = a ∧ w.2.1 = b) ∨ (w.1 = b ∧ w.2.1 = a) then some w.2.2 else joinL a b r
def joinN (N : NetV) (a b : Int) : Option Int := joinL a b N.ls
def normL (w : Ln) : Int × Int := if w.2.1 < w.1 then (w.1, w.2.1) else (w.2.1, w.1)
def hostN (N : NetV) (a : Int) : Bool := N.ks.getD a.toNat false
def optI : Option Int → D
  | none => .non
  | some i => .int i
structure NetOk (N : NetV) : Prop where
  n3 : 3 ≤ N.ks.length
  n7 : N.ks.length ≤ 7
  l21 : N.ls.length ≤ 21
  ln : ∀ w ∈ N.ls, (0 ≤ w.1 ∧ w.1 < N.ks.length) ∧ (0 ≤ w.2.1 ∧ w.2.1 < N.ks.length) ∧ w.1 ≠ w.2.1 ∧ 0 ≤ w.2.2 ∧ w.2.2 ≤ 4
  nd : (N.ls.map normL).Nodup
  pr0 : 0 ≤ N.pr
  pr2 : N.pr ≤ 2
  er0 : 0 ≤ N.er
  er2 : N.er ≤ 2
theorem ixD_ints {xs : List Int} {i : Int} (h0 : 0 ≤ i) (h1 : i < xs.length) : ∃ v, ixD (xs.map D.int) i = some (.int v) ∧ v ∈ xs ∧ xs[i.toNat]? = some v := by
  have e : xs[i.toNat]? = some xs[i.toNat] := List.getElem?_eq_getElem (by omega)
  refine ⟨xs[i.toNat], ?_, List.getElem_mem _, e⟩
  unfold ixD
  rw [if_pos h0, List.getElem?_map, e]
  rfl
theorem ixD_map {α : Type} (f : α → D) {xs : List α} {i : Int} {v : α} (h0 : 0 ≤ i) (h1 : xs[i.toNat]? = some v) : ixD (xs.map f) i = some (f v) := by
  unfold ixD
  rw [if_pos h0, List.getElem?_map, h1]
  rfl
theorem ixD_kD {ks : List Bool} {i : Int} (h0 : 0 ≤ i) (h1 : i < ks.length) : ixD (ks.map kD) i = some (kD (ks.getD i.toNat false)) := by
  have h2 : i.toNat < ks.length := by omega
  refine ixD_map kD h0 ?_
  rw [List.getD_eq_getElem?_getD, List.getElem?_eq_getElem h2]
  rfl
theorem eqD_k (b : Bool) (x : Str) : eqD (kD b) (.str x) = decide ((if b then ("host" : Str) else "switch") = x) := eqD_str _ _
theorem eqD_kh (b : Bool) : eqD (kD b) (.str "host") = b := by cases b <;> decide
theorem eqD_ks (b : Bool) : eqD (kD b) (.str "switch") = !b := by cases b <;> decide
theorem eqD_kk (b c : Bool) : eqD (kD b) (kD c) = (b == c) := by cases b <;> cases c <;> decide
theorem okD_k (b : Bool) : okD (kD b) = true := okD_str _ (by cases b <;> decide +kernel)
theorem okD_p2 (a b : Int) : okD (.tup [.int a, .int b]) = true := (show dep 1 (.tup [.int a, .int b]) from dep_tup fun x hx => by
  simp only [List.mem_cons, List.not_mem_nil, or_false] at hx
  rcases hx with rfl | rfl <;> exact dep_int 0 _).1
theorem eqD_p2 (a b c d : Int) : eqD (.tup [.int a, .int b]) (.tup [.int c, .int d]) = decide (a = c ∧ b = d) := by
  have h1 := eqD_int a c
  have h2 := eqD_int b d
  have e : eqD (.tup [.int a, .int b]) (.tup [.int c, .int d]) = (eqD (.int a) (.int c) && (eqD (.int b) (.int d) && true)) := by
    unfold eqD
    simp [pd, pds, PyData.eqv, PyData.eqvAll]
  rw [e, h1, h2, Bool.and_true, Bool.decide_and]
/-- a list that is handed on: clean, borrowed, own -/
def RdL (w : W) (ds : List D) : Prop := w = .cl (.lst ds) ∨ w = .bw (.fl ds) ∨ w = .ow (.fl ds)
def c_Net___init__ : Ini := fun ws P => ∃ (wk wl : W) (kd ld : List D) (p e : Int), ws = [wk, wl, .cl (.int p), .cl (.int e)] ∧ RdL wk kd ∧ RdL wl ld ∧ P [.lst kd, .lst ld, .int p, .int e]
theorem l_Net___init__ : ∀ ws P, c_Net___init__ ws P → ws.length + 1 = 5 := by rintro ws P ⟨wk, wl, kd, ld, p, e, rfl, _⟩; rfl
/-- Net.__init__: slots 0=self 1=kinds 2=lines 3=processing 4=error -/
def a_Net___init__ : AF :=
  aFs (aF 0 (aCB fList (aCons (aV 1) (aNil)))) (aFs (aF 1 (aCB fList (aCons (aV 2) (aNil)))) (aFs (aF 2 (aV 3)) (aF 3 (aV 4))))
theorem w_Net___init__ : ∀ ws P, c_Net___init__ ws P → a_Net___init__ (.non :: ws.map avOf) [] fun ds => ds.length = 4 ∧ P ds := by
  rintro ws P ⟨wk, wl, kd, ld, p, e, rfl, h1, h2, h⟩
  unfold a_Net___init__ aFs aF
  rcases h1 with rfl | rfl | rfl <;> rcases h2 with rfl | rfl | rfl <;>
  · simp only [List.map_cons, List.map_nil, avOf]
    walk_at "vs"
    first | exact ⟨rfl, h⟩ | exact h | exact ⟨rfl, rfl, rfl, rfl, rfl, h⟩
def c_Net_delay : Ct := fun ws Q => ∃ (N : NetV) (a b : Int), ws = [.cl (netD N), .cl (.int a), .cl (.int b)] ∧ Q (.cl (optI (joinN N a b)))
theorem l_Net_delay : ∀ ws P, c_Net_delay ws P → ws.length = 3 := by rintro ws P ⟨N, a, b, rfl, _⟩; rfl
/-- Net.delay: slots 0=self 1=a 2=b 3=first 4=second 5=ticks -/
def a_Net_delay : AS :=
  aSeq (aFor (iLst (aFld 0 1 (aV 0))) (agT 3 (agCons (agN 3) (agCons (agN 4) (agCons (agN 5) (agNil))))) (aIf (aOr (aB (aBin (dEq) (aTup (aCons (aV 3) (aCons (aV 4) (aNil)))) (aTup (aCons (aV 1) (aCons (aV 2) (aNil)))))) (aB (aBin (dEq) (aTup (aCons (aV 3) (aCons (aV 4) (aNil)))) (aTup (aCons (aV 2) (aCons (aV 1) (aNil))))))) (aRetV 5) (aNext))) (aRet (aC .non))
theorem w_Net_delay : ∀ ws P, c_Net_delay ws P → a_Net_delay { nx := fun _ => P (.cl .non), rt := fun w _ => P w } (startA 6 ws) := by
  rintro ws P ⟨N, a, b, rfl, h⟩
  show a_Net_delay _ [.im (.ins 0 [.lst (N.ks.map kD), .lst (N.ls.map lnD), .int N.pr, .int N.er]), .im (.int a), .im (.int b), .non, .non, .non]
  unfold a_Net_delay
  walk_at "vs"
  refine for_map lnD N.ls (fun r δ => (∃ x y z, δ = [.im (.ins 0 [.lst (N.ks.map kD), .lst (N.ls.map lnD), .int N.pr, .int N.er]), .im (.int a), .im (.int b), x, y, z]) ∧ joinN N a b = joinL a b r) ⟨⟨_, _, _, rfl⟩, rfl⟩ ?_ ?_
  · rintro ⟨p, q, t⟩ r δ _ ⟨⟨x, y, z, rfl⟩, hf⟩
    rw [show lnD (p, q, t) = .tup [.int p, .int q, .int t] from rfl]
    have e1 : joinL a b ((p, q, t) :: r) = if (p = a ∧ q = b) ∨ (p = b ∧ q = a) then some t else joinL a b r := rfl
    rw [e1] at hf
    walk_at "vs"
    simp only [okD_p2, eqD_p2]
    refine ⟨by decide, by decide, trivial, trivial, ?_⟩
    split
    · rename_i q
      rw [if_pos (.inl (of_decide_eq_true q))] at hf
      rw [hf] at h
      exact h
    · rename_i q
      refine ⟨by decide, by decide, trivial, trivial, ?_⟩
      split
      · rename_i q2
        rw [if_pos (.inr (of_decide_eq_true q2))] at hf
        rw [hf] at h
        exact h
      · rename_i q2
        rw [if_neg (fun z => z.elim (fun z => q (decide_eq_true z)) fun z => q2 (decide_eq_true z))] at hf
        exact ⟨⟨_, _, _, rfl⟩, hf⟩
  · rintro δ ⟨⟨x, y, z, rfl⟩, hf⟩
    walk_at "vs"
    rw [hf] at h
    exact h
def c__law_joined : Ct := fun ws Q => ∃ (N : NetV) (a b : Int), ws = [.cl (netD N), .cl (.int a), .cl (.int b)] ∧ Q (.cl (optI (joinN N a b)))
theorem l__law_joined : ∀ ws P, c__law_joined ws P → ws.length = 3 := by rintro ws P ⟨N, a, b, rfl, _⟩; rfl
/-- _law_joined: slots 0=_law_net_here 1=_law_a 2=_law_b 3=_law_first 4=_law_second 5=_law_ticks -/
def a__law_joined : AS :=
  aSeq (aFor (iLst (aFld 0 1 (aV 0))) (agT 3 (agCons (agN 3) (agCons (agN 4) (agCons (agN 5) (agNil))))) (aIf (aOr (aAnd (aB (aBin (dEq) (aV 3) (aV 1))) (aB (aBin (dEq) (aV 4) (aV 2)))) (aAnd (aB (aBin (dEq) (aV 3) (aV 2))) (aB (aBin (dEq) (aV 4) (aV 1))))) (aRetV 5) (aNext))) (aRet (aC .non))
theorem w__law_joined : ∀ ws P, c__law_joined ws P → a__law_joined { nx := fun _ => P (.cl .non), rt := fun w _ => P w } (startA 6 ws) := by
  rintro ws P ⟨N, a, b, rfl, h⟩
  show a__law_joined _ [.im (.ins 0 [.lst (N.ks.map kD), .lst (N.ls.map lnD), .int N.pr, .int N.er]), .im (.int a), .im (.int b), .non, .non, .non]
  unfold a__law_joined
  walk_at "vs"
  refine for_map lnD N.ls (fun r δ => (∃ x y z, δ = [.im (.ins 0 [.lst (N.ks.map kD), .lst (N.ls.map lnD), .int N.pr, .int N.er]), .im (.int a), .im (.int b), x, y, z]) ∧ joinN N a b = joinL a b r) ⟨⟨_, _, _, rfl⟩, rfl⟩ ?_ ?_
  · rintro ⟨p, q, t⟩ r δ _ ⟨⟨x, y, z, rfl⟩, hf⟩
    rw [show lnD (p, q, t) = .tup [.int p, .int q, .int t] from rfl]
    have e1 : joinL a b ((p, q, t) :: r) = if (p = a ∧ q = b) ∨ (p = b ∧ q = a) then some t else joinL a b r := rfl
    rw [e1] at hf
    walk_at "vs"
    have yes : ((p = a ∧ q = b) ∨ (p = b ∧ q = a)) → P (.cl (.int t)) := fun z => by
      rw [if_pos z] at hf
      rw [hf] at h
      exact h
    have nx : ¬((p = a ∧ q = b) ∨ (p = b ∧ q = a)) → joinN N a b = joinL a b r := fun z => by
      rw [if_neg z] at hf
      exact hf
    repeat' split
    all_goals first
      | exact yes (.inl ⟨by assumption, by assumption⟩)
      | exact yes (.inr ⟨by assumption, by assumption⟩)
      | exact ⟨⟨_, _, _, rfl⟩, nx (fun z => by rcases z with ⟨z1, z2⟩ | ⟨z1, z2⟩ <;> contradiction)⟩
  · rintro δ ⟨⟨x, y, z, rfl⟩, hf⟩
    walk_at "vs"
    rw [hf] at h
    exact h
def tri : Nat → Nat
  | 0 => 0
  | n + 1 => tri n + n
theorem tri_le {n : Nat} (h : n ≤ 7) : tri n ≤ 21 := by
  have : n = 0 ∨ n = 1 ∨ n = 2 ∨ n = 3 ∨ n = 4 ∨ n = 5 ∨ n = 6 ∨ n = 7 := by omega
  rcases this with rfl | rfl | rfl | rfl | rfl | rfl | rfl | rfl <;> decide
def pD (p : Int × Int) : D := .tup [.int p.1, .int p.2]
/-- pairs of nodes, one of them a switch, below (a, b) -/
structure PairsTo (ks : List Bool) (ps : List (Int × Int)) (a b : Nat) : Prop where
  nd : ps.Nodup
  lt : ∀ p ∈ ps, 0 ≤ p.2 ∧ p.2 < p.1 ∧ (p.1 < a ∨ (p.1 = a ∧ p.2 < b))
  sw : ∀ p ∈ ps, (ks.getD p.1.toNat false = false ∨ ks.getD p.2.toNat false = false)
  ln : ps.length ≤ tri a + b
theorem PairsTo.row {ks : List Bool} {ps : List (Int × Int)} {a b : Nat} (h : PairsTo ks ps a b) (e : a = b) : PairsTo ks ps (a + 1) 0 :=
  ⟨h.nd, fun p hp => by have := h.lt p hp; omega, h.sw, by have := h.ln; show _ ≤ tri a + a + 0; omega⟩
theorem PairsTo.skip {ks : List Bool} {ps : List (Int × Int)} {a b : Nat} (h : PairsTo ks ps a b) : PairsTo ks ps a (b + 1) :=
  ⟨h.nd, fun p hp => by have := h.lt p hp; omega, h.sw, by have := h.ln; omega⟩
theorem PairsTo.add {ks : List Bool} {ps : List (Int × Int)} {a b : Nat} (h : PairsTo ks ps a b) (hb : b < a) (hs : ks.getD a false = false ∨ ks.getD b false = false) : PairsTo ks (ps ++ [((a : Int), (b : Int))]) a (b + 1) := by
  refine ⟨?_, fun p hp => ?_, fun p hp => ?_, by rw [List.length_append, List.length_singleton]; have := h.ln; omega⟩
  · rw [List.nodup_append]
    refine ⟨h.nd, List.nodup_cons.mpr ⟨List.not_mem_nil, List.nodup_nil⟩, fun p hp q hq e => ?_⟩
    rw [List.mem_singleton.mp hq] at e
    have := h.lt p hp
    rw [e] at this
    have h1 : ((a : Int), (b : Int)).1 = a := rfl
    have h2 : ((a : Int), (b : Int)).2 = b := rfl
    omega
  · rcases List.mem_append.mp hp with q | q
    · have := h.lt p q; omega
    · rw [List.mem_singleton.mp q]
      exact ⟨by show (0 : Int) ≤ b; omega, by show (b : Int) < a; omega, .inr ⟨rfl, by show (b : Int) < ((b + 1 : Nat) : Int); omega⟩⟩
  · rcases List.mem_append.mp hp with q | q
    · exact h.sw p q
    · rw [List.mem_singleton.mp q]
      simpa using hs
/-- lines so far, n nodes -/
structure LinesTo (n : Nat) (ls : List Ln) : Prop where
  ln : ∀ w ∈ ls, (0 ≤ w.1 ∧ w.1 < n) ∧ (0 ≤ w.2.1 ∧ w.2.1 < n) ∧ w.1 ≠ w.2.1 ∧ 0 ≤ w.2.2 ∧ w.2.2 ≤ 4
  nd : (ls.map normL).Nodup
  l21 : ls.length ≤ 21
theorem normL_1 {a b t : Int} (h : b < a) : normL (a, b, t) = (a, b) := if_pos h
theorem normL_2 {a b t : Int} (h : b < a) : normL (b, a, t) = (a, b) := if_neg (by show ¬ a < b; omega)
theorem LinesTo.add {n : Nat} {ls : List Ln} {w : Ln} (h : LinesTo n ls) (h1 : (0 ≤ w.1 ∧ w.1 < n) ∧ (0 ≤ w.2.1 ∧ w.2.1 < n) ∧ w.1 ≠ w.2.1 ∧ 0 ≤ w.2.2 ∧ w.2.2 ≤ 4) (h2 : normL w ∉ ls.map normL) (h3 : ls.length < 21) : LinesTo n (ls ++ [w]) := by
  refine ⟨fun u hu => ?_, ?_, by rw [List.length_append, List.length_singleton]; omega⟩
  · rcases List.mem_append.mp hu with q | q
    · exact h.ln u q
    · rw [List.mem_singleton.mp q]; exact h1
  · rw [List.map_append, List.nodup_append]
    refine ⟨h.nd, List.nodup_cons.mpr ⟨List.not_mem_nil, List.nodup_nil⟩, fun p hp q hq e => ?_⟩
    rw [List.map_singleton, List.mem_singleton] at hq
    rw [e, hq] at hp
    exact h2 hp
def c__law_net : Ct := fun ws Q => ∃ a b : Int, ws = [.cl (.int a), .cl (.int b)] ∧ ∀ N, NetOk N → Q (.cl (netD N))
theorem l__law_net : ∀ ws P, c__law_net ws P → ws.length = 2 := by rintro ws P ⟨a, b, rfl, _⟩; rfl
/-- _law_net: slots 0=_law_cell_here 1=_law_more 2=_law_numbers 3=_law_hosts 4=_law_switches 5=_law_kinds 6=_law_k 7=_law_pairs 8=_law_a 9=_law_b 10=_law_draws 11=_law_lines 12=_law_near -/
def a__law_net : AS :=
  aSeq (aSetC 2 (aCall c__law_draw (aCons (aV 0) (aCons (aC (.int 8)) (aCons (aBin dShl (aC (.int 1)) (aC (.int 20))) (aNil)))))) (aSeq (aSetC 3 (aBin dAdd (aC (.int 2)) (aBin dMod (aBin dIx (aV 2) (aC (.int 0))) (aC (.int 3))))) (aSeq (aSetC 4 (aBin dAdd (aC (.int 1)) (aBin dMod (aBin dIx (aV 2) (aC (.int 1))) (aC (.int 3))))) (aSeq (aSet 5 (aBin dMul (aLst (aCons (aC (.str "host")) (aNil))) (aV 3))) (aSeq (aFor (iR1 (aCons (aV 4) (aNil))) (agN 6) (aMut "list" 5 mInsert (aCons (aBin dMod (aBin dIx (aV 2) (aBin dAdd (aC (.int 2)) (aV 6))) (aBin dAdd (aCB fLen1 (aCons (aV 5) (aNil))) (aC (.int 1)))) (aCons (aC (.str "switch")) (aNil))))) (aSeq (aSet 7 (aLst (aNil))) (aSeq (aFor (iR1 (aCons (aCB fLen1 (aCons (aV 5) (aNil))) (aNil))) (agN 8) (aFor (iR1 (aCons (aV 8) (aNil))) (agN 9) (aIf (aOr (aB (aBin (dEq) (aBin dIx (aV 5) (aV 8)) (aC (.str "switch")))) (aB (aBin (dEq) (aBin dIx (aV 5) (aV 9)) (aC (.str "switch"))))) (aMut "list" 7 mAppend (aCons (aTup (aCons (aV 8) (aCons (aV 9) (aNil)))) (aNil))) (aNext)))) (aSeq (aSetC 10 (aCall c__law_draw (aCons (aV 1) (aCons (aBin dMul (aC (.int 2)) (aCB fLen1 (aCons (aV 7) (aNil)))) (aCons (aBin dShl (aC (.int 1)) (aC (.int 20))) (aNil)))))) (aSeq (aSet 11 (aLst (aNil))) (aSeq (aFor (iR1 (aCons (aCB fLen1 (aCons (aV 7) (aNil))) (aNil))) (agN 6) (aSeq (aAsgG (aBin dIx (aV 7) (aV 6)) (agT 2 (agCons (agN 8) (agCons (agN 9) (agNil))))) (aSeq (aSetC 12 (aBin (dNe) (aBin dIx (aV 5) (aV 8)) (aBin dIx (aV 5) (aV 9)))) (aIf (aOr (aB (aBin (dLt) (aBin dMod (aBin dIx (aV 10) (aBin dMul (aC (.int 2)) (aV 6))) (aC (.int 5))) (aC (.int 3)))) (aAnd (aB (aV 12)) (aB (aBin (dEq) (aBin dMod (aBin dIx (aV 10) (aBin dMul (aC (.int 2)) (aV 6))) (aC (.int 5))) (aC (.int 3)))))) (aIf (aB (aBin (dEq) (aBin dMod (aBin dIx (aV 10) (aBin dAdd (aBin dMul (aC (.int 2)) (aV 6)) (aC (.int 1)))) (aC (.int 2))) (aC (.int 0)))) (aMut "list" 11 mAppend (aCons (aTup (aCons (aV 8) (aCons (aV 9) (aCons (aBin dMod (aBin dDiv (aBin dIx (aV 10) (aBin dAdd (aBin dMul (aC (.int 2)) (aV 6)) (aC (.int 1)))) (aC (.int 2))) (aC (.int 4))) (aNil))))) (aNil))) (aMut "list" 11 mAppend (aCons (aTup (aCons (aV 9) (aCons (aV 8) (aCons (aBin dMod (aBin dDiv (aBin dIx (aV 10) (aBin dAdd (aBin dMul (aC (.int 2)) (aV 6)) (aC (.int 1)))) (aC (.int 2))) (aC (.int 4))) (aNil))))) (aNil)))) (aNext))))) (aCut (aIf (aB (aBin (dEq) (aBin dMod (aBin dIx (aV 2) (aC (.int 5))) (aC (.int 7))) (aC (.int 0)))) (aFor (iR1 (aCons (aCB fLen1 (aCons (aV 5) (aNil))) (aNil))) (agN 8) (aFor (iR1 (aCons (aV 8) (aNil))) (agN 9) (aIf (aAnd (aB (aBin (dEq) (aBin dIx (aV 5) (aV 8)) (aC (.str "host")))) (aAnd (aB (aBin (dEq) (aBin dIx (aV 5) (aV 9)) (aC (.str "host")))) (aB (aBin (dLt) (aCB fLen1 (aCons (aV 11) (aNil))) (aC (.int 20)))))) (aMut "list" 11 mAppend (aCons (aTup (aCons (aV 8) (aCons (aV 9) (aCons (aBin dMod (aBin dIx (aV 2) (aC (.int 6))) (aC (.int 5))) (aNil))))) (aNil))) (aNext)))) (aNext)) (aRet (aMakeK 0 2 2 c_Net___init__ (aCons (aV 5) (aCons (aV 11) (aNil))) (aCons (aBin dMod (aBin dDiv (aBin dIx (aV 2) (aC (.int 6))) (aC (.int 5))) (aC (.int 3))) (aCons (aBin dIx (aLst (aCons (aC (.int 0)) (aCons (aC (.int 1)) (aCons (aC (.int 0)) (aCons (aC (.int 2)) (aNil)))))) (aBin dMod (aBin dIx (aV 2) (aC (.int 7))) (aC (.int 4)))) (aNil)))))))))))))))
theorem w__law_net : ∀ ws P, c__law_net ws P → a__law_net { nx := fun _ => P (.cl .non), rt := fun w _ => P w } (startA 13 ws) := by
  rintro ws P ⟨c1, c2, rfl, h⟩
  show a__law_net _ [.im (.int c1), .im (.int c2), .non, .non, .non, .non, .non, .non, .non, .non, .non, .non, .non]
  unfold a__law_net
  walk_at "vs"
  refine ⟨by decide, c1, 8, _, rfl, by decide, by decide, by decide, fun xs hl hx => ?_⟩
  obtain ⟨n0, n1, n2, n3, n4, n5, n6, n7, rfl⟩ := len_8 (show xs.length = 8 from hl)
  walk_at "vs"
  have h2 : -1000000 ≤ 2 + n0 % 3 ∧ 2 + n0 % 3 ≤ 1000000 ∧ (0 + 1) * (2 + n0 % 3).toNat ≤ 1000000 := by omega
  refine ⟨by decide, by decide, by decide, h2, by omega, ?_⟩
  have eN : ∀ k : Int, 0 ≤ k → k < 8 → ∃ v, ixD [D.int n0, .int n1, .int n2, .int n3, .int n4, .int n5, .int n6, .int n7] k = some (.int v) := fun k q1 q2 => by
    obtain ⟨v, e, _⟩ := ixD_ints (xs := [n0, n1, n2, n3, n4, n5, n6, n7]) q1 (by simpa using q2)
    exact ⟨v, e⟩
  simp only [List.map_cons, List.map_nil]
  obtain ⟨NU, hNU⟩ : ∃ NU, NU = [D.int n0, .int n1, .int n2, .int n3, .int n4, .int n5, .int n6, .int n7] := ⟨_, rfl⟩
  rw [← hNU] at eN ⊢
  obtain ⟨ho, hho⟩ : ∃ ho : Nat, ho = (2 + n0 % 3).toNat := ⟨_, rfl⟩
  rw [← hho]
  refine for_up (fun i δ => ∃ (ks : List Bool) (a : AV), δ = [.im (.int c1), .im (.int c2), .im (.lst NU), .im (.int (2 + n0 % 3)), .im (.int (1 + n1 % 3)), .ow false (.fl (ks.map kD)), a, .non, .non, .non, .non, .non, .non] ∧ ks.length = ho + i) ⟨List.replicate ho true, .non, ?_, by simp⟩ ?_ ?_
  · have : (List.replicate ho true).map kD = (List.replicate ho [D.str "host"]).flatten := by
      clear hho
      induction ho with
      | zero => rfl
      | succ m ih => rw [List.replicate_succ, List.map_cons, ih, List.replicate_succ, List.flatten_cons]; rfl
    rw [this]
  · rintro i δ hi ⟨ks, a, rfl, hk⟩
    walk_at "vs"
    obtain ⟨v, hv⟩ := eN (2 + (0 + (i : Int))) (by omega) (by omega)
    rw [hv]
    walk_at "vs"
    have m0 := Int.emod_nonneg v (show (ks.length : Int) + 1 ≠ 0 by omega)
    have m1 := Int.emod_lt_of_pos v (show 0 < (ks.length : Int) + 1 by omega)
    refine ⟨by omega, ⟨by omega, m0, by omega⟩, ks.take (v % ((ks.length : Int) + 1)).toNat ++ [false] ++ ks.drop (v % ((ks.length : Int) + 1)).toNat, .im (.int (0 + (i : Int))), ?_, ?_⟩
    · rw [List.map_append, List.map_append, List.map_take, List.map_drop]
      rfl
    · rw [List.length_append, List.length_append, List.length_take, List.length_drop, List.length_singleton]
      omega
  rintro δ ⟨ks, a, rfl, hk⟩
  have hn : 3 ≤ ks.length ∧ ks.length ≤ 7 := by omega
  clear hk hho eN
  have hK : ∀ i : Int, 0 ≤ i → i < ks.length → ixD (ks.map kD) i = some (kD (ks.getD i.toNat false)) := fun i q1 q2 => ixD_kD q1 q2
  have oh : okD (.str "host") = true := okD_k true
  have os : okD (.str "switch") = true := okD_k false
  walk_at "vs"
  refine ⟨by decide, by omega, ?_⟩
  refine for_up (fun i δ => ∃ (ps : List (Int × Int)) (x y z : AV), δ = [.im (.int c1), .im (.int c2), .im (.lst NU), .im (.int (2 + n0 % 3)), .im (.int (1 + n1 % 3)), .ow false (.fl (ks.map kD)), x, .ow false (.fl (ps.map pD)), y, z, .non, .non, .non] ∧ PairsTo ks ps i 0) ⟨[], _, _, _, rfl, List.nodup_nil, fun p hp => (nomatch hp), fun p hp => (nomatch hp), by simp⟩ ?_ ?_
  · rintro i δ hi ⟨ps, x, y, z, rfl, hp⟩
    have hi : i < ks.length := by omega
    walk_at "vs"
    refine ⟨by omega, ?_⟩
    have e0 : (0 + (i : Int)).toNat = i := by omega
    refine for_up (fun j δ => ∃ (ps : List (Int × Int)) (z : AV), δ = [.im (.int c1), .im (.int c2), .im (.lst NU), .im (.int (2 + n0 % 3)), .im (.int (1 + n1 % 3)), .ow false (.fl (ks.map kD)), x, .ow false (.fl (ps.map pD)), .im (.int (0 + (i : Int))), z, .non, .non, .non] ∧ PairsTo ks ps i j) ⟨ps, _, rfl, hp⟩ ?_ ?_
    · rintro j δ hj ⟨ps, z, rfl, hp⟩
      have hj : j < i := by omega
      have ht := tri_le (show i + 1 ≤ 7 by omega)
      have ht2 : tri (i + 1) = tri i + i := rfl
      have hl := hp.ln
      walk_at "vs"
      rw [hK (0 + (i : Int)) (by omega) (by omega)]
      walk_at "vs"
      simp only [okD_k, os, eqD_ks, e0]
      refine ⟨trivial, trivial, ?_⟩
      have add : (ks.getD i false = false ∨ ks.getD j false = false) → ps.length < 1000000 ∧ ∃ (ps' : List (Int × Int)) (z : AV), ([.im (.int c1), .im (.int c2), .im (.lst NU), .im (.int (2 + n0 % 3)), .im (.int (1 + n1 % 3)), .ow false (.fl (ks.map kD)), x, .ow false (.fl (ps.map pD ++ [D.tup [.int (0 + (i : Int)), .int (0 + (j : Int))]])), .im (.int (0 + (i : Int))), .im (.int (0 + (j : Int))), .non, .non, .non] : List AV) =
          [.im (.int c1), .im (.int c2), .im (.lst NU), .im (.int (2 + n0 % 3)), .im (.int (1 + n1 % 3)), .ow false (.fl (ks.map kD)), x, .ow false (.fl (ps'.map pD)), .im (.int (0 + (i : Int))), z, .non, .non, .non] ∧ PairsTo ks ps' i (j + 1) := fun q => by
        refine ⟨by omega, ps ++ [((i : Int), (j : Int))], .im (.int (0 + (j : Int))), ?_, hp.add hj q⟩
        rw [List.map_append, Int.zero_add, Int.zero_add]
        rfl
      have e1 : (0 + (j : Int)).toNat = j := by omega
      split
      · rename_i q
        exact ⟨by decide, add (.inl (by simpa using q))⟩
      · rename_i q
        rw [hK (0 + (j : Int)) (by omega) (by omega)]
        walk_at "vs"
        simp only [okD_k, os, eqD_ks, e1, true_and]
        cases hb : ks.getD j false with
        | false =>
          simp only [hb, Bool.not_false, if_true]
          exact ⟨by decide, add (.inr hb)⟩
        | true =>
          simp only [hb, Bool.not_true, Bool.false_eq_true, if_false]
          exact ⟨ps, _, rfl, hp.skip⟩
    · rintro δ ⟨ps, z, rfl, hp⟩
      rw [e0] at hp
      exact ⟨ps, _, _, _, rfl, hp.row rfl⟩
  rintro δ ⟨ps, x, y, z, rfl, hp⟩
  have hpl : ps.length ≤ 21 := by
    have := hp.ln
    have e : ((ks.length : Int)).toNat = ks.length := by omega
    rw [e] at this
    have := tri_le hn.2
    omega
  have hplt : ∀ p ∈ ps, 0 ≤ p.2 ∧ p.2 < p.1 ∧ p.1 < ks.length := fun p q => by have := hp.lt p q; omega
  walk_at "vs"
  refine ⟨.inl (by decide), by decide, c2, 2 * (ps.length : Int), _, rfl, by omega, by decide, by decide, fun dr hdl hdx => ?_⟩
  walk_at "vs"
  refine ⟨by decide, by omega, ?_⟩
  refine for_up (fun k δ => ∃ (ls : List Ln) (x y z w : AV), δ = [.im (.int c1), .im (.int c2), .im (.lst NU), .im (.int (2 + n0 % 3)), .im (.int (1 + n1 % 3)), .ow false (.fl (ks.map kD)), x, .ow false (.fl (ps.map pD)), y, z, .im (.lst (dr.map .int)), .ow false (.fl (ls.map lnD)), w] ∧ LinesTo ks.length ls ∧ (ls.map normL).Sublist (ps.take k))
    ⟨[], _, _, _, _, rfl, ⟨fun p hp => (nomatch hp), List.nodup_nil, by simp⟩, by simp⟩ ?_ ?_
  · rintro k δ hk ⟨ls, x, y, z, w, rfl, hL, hS⟩
    have hk : k < ps.length := by omega
    obtain ⟨p, hpk⟩ : ∃ p, ps[k]? = some p := ⟨_, List.getElem?_eq_getElem hk⟩
    obtain ⟨pa, pb⟩ := p
    obtain ⟨q1, q2, q3⟩ : 0 ≤ pb ∧ pb < pa ∧ pa < ks.length := hplt _ (List.mem_of_getElem? hpk)
    have etk : ps.take (k + 1) = ps.take k ++ [(pa, pb)] := by rw [List.take_add_one, hpk]; rfl
    have e0 : (0 + (k : Int)).toNat = k := by omega
    walk_at "vs"
    rw [ixD_map pD (show 0 ≤ 0 + (k : Int) by omega) (by rw [e0]; exact hpk), show pD (pa, pb) = .tup [.int pa, .int pb] from rfl]
    walk_at "vs"
    rw [hK pa (by omega) q3]
    walk_at "vs"
    rw [hK pb q1 (by omega)]
    walk_at "vs"
    simp only [okD_k, eqD_kk]
    obtain ⟨d1, hd1, hm1, _⟩ := ixD_ints (xs := dr) (i := 2 * (0 + (k : Int))) (by omega) (by omega)
    obtain ⟨d2, hd2, hm2, _⟩ := ixD_ints (xs := dr) (i := 2 * (0 + (k : Int)) + 1) (by omega) (by omega)
    refine ⟨trivial, trivial, .inl (by decide), ?_⟩
    rw [hd1]
    walk_at "vs"
    have nxt : ∀ w' : AV, ∃ (ls' : List Ln) (x y z w : AV), ([.im (.int c1), .im (.int c2), .im (.lst NU), .im (.int (2 + n0 % 3)), .im (.int (1 + n1 % 3)), .ow false (.fl (ks.map kD)), .im (.int (0 + (k : Int))), .ow false (.fl (ps.map pD)), .im (.int pa), .im (.int pb), .im (.lst (dr.map .int)), .ow false (.fl (ls.map lnD)), w'] : List AV) =
        [.im (.int c1), .im (.int c2), .im (.lst NU), .im (.int (2 + n0 % 3)), .im (.int (1 + n1 % 3)), .ow false (.fl (ks.map kD)), x, .ow false (.fl (ps.map pD)), y, z, .im (.lst (dr.map .int)), .ow false (.fl (ls'.map lnD)), w] ∧ LinesTo ks.length ls' ∧ (ls'.map normL).Sublist (ps.take (k + 1)) := fun w' =>
      ⟨ls, _, _, _, _, rfl, hL, by rw [etk]; exact hS.trans (List.sublist_append_left _ _)⟩
    have add : ∀ (w : Ln) (w' : AV), normL w = (pa, pb) → ((0 ≤ w.1 ∧ w.1 < ks.length) ∧ (0 ≤ w.2.1 ∧ w.2.1 < ks.length) ∧ w.1 ≠ w.2.1 ∧ 0 ≤ w.2.2 ∧ w.2.2 ≤ 4) → ls.length < 1000000 ∧ ∃ (ls' : List Ln) (x y z w2 : AV), ([.im (.int c1), .im (.int c2), .im (.lst NU), .im (.int (2 + n0 % 3)), .im (.int (1 + n1 % 3)), .ow false (.fl (ks.map kD)), .im (.int (0 + (k : Int))), .ow false (.fl (ps.map pD)), .im (.int pa), .im (.int pb), .im (.lst (dr.map .int)), .ow false (.fl (ls.map lnD ++ [D.tup [.int w.1, .int w.2.1, .int w.2.2]])), w'] : List AV) =
        [.im (.int c1), .im (.int c2), .im (.lst NU), .im (.int (2 + n0 % 3)), .im (.int (1 + n1 % 3)), .ow false (.fl (ks.map kD)), x, .ow false (.fl (ps.map pD)), y, z, .im (.lst (dr.map .int)), .ow false (.fl (ls'.map lnD)), w2] ∧ LinesTo ks.length ls' ∧ (ls'.map normL).Sublist (ps.take (k + 1)) := fun w w' hw h1 => by
      have hlen : ls.length ≤ k := by
        have := hS.length_le
        rw [List.length_map, List.length_take] at this
        omega
      have hnin : normL w ∉ ls.map normL := fun q => by
        have nd2 : (ps.take (k + 1)).Nodup := hp.nd.sublist (List.take_sublist _ _)
        rw [etk, List.nodup_append] at nd2
        rw [hw] at q
        exact nd2.2.2 _ (hS.subset q) (pa, pb) List.mem_cons_self rfl
      refine ⟨by omega, ls ++ [w], .im (.int (0 + (k : Int))), .im (.int pa), .im (.int pb), w', ?_, hL.add h1 hnin (by omega), ?_⟩
      · rw [List.map_append]; rfl
      · rw [List.map_append, etk]
        exact hS.append (by rw [List.map_singleton, hw]; exact List.Sublist.refl _)
    refine ⟨by decide, ?_⟩
    by_cases c3 : d1 % 5 < 3
    · rw [if_pos c3]
      refine ⟨.inl (by decide), ?_⟩
      rw [hd2]
      walk_at "vs"
      refine ⟨by decide, ?_⟩
      split
      · refine ⟨.inl (by decide), by decide, by decide, by decide, ?_⟩
        exact add (pa, pb, d2 / 2 % 4) _ (normL_1 q2) ⟨⟨by show 0 ≤ pa; omega, q3⟩, ⟨q1, by show pb < _; omega⟩, by show pa ≠ pb; omega, by show 0 ≤ d2 / 2 % 4; omega, by show d2 / 2 % 4 ≤ 4; omega⟩
      · refine ⟨.inl (by decide), by decide, by decide, by decide, ?_⟩
        exact add (pb, pa, d2 / 2 % 4) _ (normL_2 q2) ⟨⟨q1, by show pb < _; omega⟩, ⟨by show 0 ≤ pa; omega, q3⟩, by show pb ≠ pa; omega, by show 0 ≤ d2 / 2 % 4; omega, by show d2 / 2 % 4 ≤ 4; omega⟩
    · rw [if_neg c3]
      cases hbb : (!ks.getD pa.toNat false == ks.getD pb.toNat false) with
      | false =>
        simp only [hbb, Bool.false_eq_true, if_false]
        exact nxt _
      | true =>
        simp only [hbb, if_true]
        refine ⟨.inl (by decide), ?_⟩
        refine ⟨by decide, ?_⟩
        split
        · refine ⟨.inl (by decide), ?_⟩
          rw [hd2]
          walk_at "vs"
          refine ⟨by decide, ?_⟩
          split
          · refine ⟨.inl (by decide), by decide, by decide, by decide, ?_⟩
            exact add (pa, pb, d2 / 2 % 4) _ (normL_1 q2) ⟨⟨by show 0 ≤ pa; omega, q3⟩, ⟨q1, by show pb < _; omega⟩, by show pa ≠ pb; omega, by show 0 ≤ d2 / 2 % 4; omega, by show d2 / 2 % 4 ≤ 4; omega⟩
          · refine ⟨.inl (by decide), by decide, by decide, by decide, ?_⟩
            exact add (pb, pa, d2 / 2 % 4) _ (normL_2 q2) ⟨⟨q1, by show pb < _; omega⟩, ⟨by show 0 ≤ pa; omega, q3⟩, by show pb ≠ pa; omega, by show 0 ≤ d2 / 2 % 4; omega, by show d2 / 2 % 4 ≤ 4; omega⟩
        · exact nxt _
  rintro δ ⟨ls, x, y, z, w, rfl, hL, hS⟩
  have hsw : ∀ w ∈ ls, ks.getD (normL w).1.toNat false = false ∨ ks.getD (normL w).2.toNat false = false := fun w hw => hp.sw _ (List.mem_of_mem_take (hS.subset (List.mem_map.mpr ⟨w, hw, rfl⟩)))
  clear hS hdx hdl hpl hplt hp
  rw [hNU]
  walk_at "vs"
  refine cut_by (fun δ => ∃ (ls : List Ln) (x y z : AV), δ = [.im (.int c1), .im (.int c2), .im (.lst [.int n0, .int n1, .int n2, .int n3, .int n4, .int n5, .int n6, .int n7]), .im (.int (2 + n0 % 3)), .im (.int (1 + n1 % 3)), .ow false (.fl (ks.map kD)), x, .ow false (.fl (ps.map pD)), y, z, .im (.lst (dr.map .int)), .ow false (.fl (ls.map lnD)), w] ∧ LinesTo ks.length ls) ?_ ?_
  · walk_at "vs"
    refine ⟨by decide, ?_⟩
    split
    · refine ⟨by omega, ?_⟩
      have eK : ∀ i : Nat, (0 + (i : Int)).toNat = i := fun i => by omega
      refine for_up (fun i δ => ∃ (ls : List Ln) (x y z : AV), δ = [.im (.int c1), .im (.int c2), .im (.lst [.int n0, .int n1, .int n2, .int n3, .int n4, .int n5, .int n6, .int n7]), .im (.int (2 + n0 % 3)), .im (.int (1 + n1 % 3)), .ow false (.fl (ks.map kD)), x, .ow false (.fl (ps.map pD)), y, z, .im (.lst (dr.map .int)), .ow false (.fl (ls.map lnD)), w] ∧ LinesTo ks.length ls ∧
        ∀ w ∈ ls, (ks.getD (normL w).1.toNat false = false ∨ ks.getD (normL w).2.toNat false = false) ∨ (normL w).1 < i) ⟨ls, _, _, _, rfl, hL, fun w hw => .inl (hsw w hw)⟩ ?_ ?_
      · rintro i δ hi ⟨ls, x, y, z, rfl, hL, hB⟩
        have hi : i < ks.length := by omega
        walk_at "vs"
        refine ⟨by omega, ?_⟩
        refine for_up (fun j δ => ∃ (ls : List Ln) (z : AV), δ = [.im (.int c1), .im (.int c2), .im (.lst [.int n0, .int n1, .int n2, .int n3, .int n4, .int n5, .int n6, .int n7]), .im (.int (2 + n0 % 3)), .im (.int (1 + n1 % 3)), .ow false (.fl (ks.map kD)), x, .ow false (.fl (ps.map pD)), .im (.int (0 + (i : Int))), z, .im (.lst (dr.map .int)), .ow false (.fl (ls.map lnD)), w] ∧ LinesTo ks.length ls ∧
          ∀ w ∈ ls, (ks.getD (normL w).1.toNat false = false ∨ ks.getD (normL w).2.toNat false = false) ∨ (normL w).1 < i ∨ ((normL w).1 = i ∧ (normL w).2 < j)) ⟨ls, _, rfl, hL, fun w hw => (hB w hw).imp id .inl⟩ ?_ ?_
        · rintro j δ hj ⟨ls, z, rfl, hL, hB⟩
          have hj : j < i := by omega
          have nxt : ∃ (ls' : List Ln) (z : AV), ([.im (.int c1), .im (.int c2), .im (.lst [.int n0, .int n1, .int n2, .int n3, .int n4, .int n5, .int n6, .int n7]), .im (.int (2 + n0 % 3)), .im (.int (1 + n1 % 3)), .ow false (.fl (ks.map kD)), x, .ow false (.fl (ps.map pD)), .im (.int (0 + (i : Int))), .im (.int (0 + (j : Int))), .im (.lst (dr.map .int)), .ow false (.fl (ls.map lnD)), w] : List AV) =
              [.im (.int c1), .im (.int c2), .im (.lst [.int n0, .int n1, .int n2, .int n3, .int n4, .int n5, .int n6, .int n7]), .im (.int (2 + n0 % 3)), .im (.int (1 + n1 % 3)), .ow false (.fl (ks.map kD)), x, .ow false (.fl (ps.map pD)), .im (.int (0 + (i : Int))), z, .im (.lst (dr.map .int)), .ow false (.fl (ls'.map lnD)), w] ∧ LinesTo ks.length ls' ∧
              ∀ w ∈ ls', (ks.getD (normL w).1.toNat false = false ∨ ks.getD (normL w).2.toNat false = false) ∨ (normL w).1 < i ∨ ((normL w).1 = i ∧ (normL w).2 < ((j + 1 : Nat) : Int)) := ⟨ls, _, rfl, hL, fun w hw => (hB w hw).imp id fun q => by omega⟩
          walk_at "vs"
          rw [hK (0 + (i : Int)) (by omega) (by omega)]
          walk_at "vs"
          simp only [okD_k, oh, eqD_kh, eK, true_and]
          cases hbi : ks.getD i false with
          | false =>
            simp only [hbi, Bool.false_eq_true, if_false]
            exact nxt
          | true =>
            simp only [hbi, if_true]
            rw [hK (0 + (j : Int)) (by omega) (by omega)]
            walk_at "vs"
            simp only [okD_k, oh, eqD_kh, eK, true_and]
            cases hbj : ks.getD j false with
            | false =>
              simp only [hbj, Bool.false_eq_true, if_false]
              exact nxt
            | true =>
              simp only [hbj, if_true]
              split
              · rename_i hlen
                have e6 : normL ((i : Int), (j : Int), n6 % 5) = ((i : Int), (j : Int)) := normL_1 (by omega)
                refine ⟨by decide, by decide, by omega, ls ++ [((i : Int), (j : Int), n6 % 5)], .im (.int (0 + (j : Int))), ?_, hL.add ⟨⟨by show (0 : Int) ≤ i; omega, by show (i : Int) < _; omega⟩, ⟨by show (0 : Int) ≤ j; omega, by show (j : Int) < _; omega⟩, by show (i : Int) ≠ j; omega, by show 0 ≤ n6 % 5; omega, by show n6 % 5 ≤ 4; omega⟩ ?_ (by omega), fun w hw => ?_⟩
                · rw [List.map_append, Int.zero_add, Int.zero_add]; rfl
                · intro q
                  obtain ⟨u, hu, eu⟩ := List.mem_map.mp q
                  rw [e6] at eu
                  have := hB u hu
                  rw [eu] at this
                  simp only [Int.toNat_natCast, hbi, hbj] at this
                  rcases this with (q | q) | q | q
                  · cases q
                  · cases q
                  · omega
                  · omega
                · rcases List.mem_append.mp hw with q | q
                  · exact (hB w q).imp id fun q => by omega
                  · rw [List.mem_singleton.mp q, e6]
                    exact .inr (.inr ⟨rfl, by show (j : Int) < ((j + 1 : Nat) : Int); omega⟩)
              · exact nxt
        · rintro δ ⟨ls, z, rfl, hL, hB⟩
          refine ⟨ls, _, _, _, rfl, hL, fun w hw => (hB w hw).imp id fun q => ?_⟩
          rcases q with q | q <;> omega
      · rintro δ ⟨ls, x, y, z2, rfl, hL, hB⟩
        exact ⟨ls, _, _, _, rfl, hL⟩
    · exact ⟨ls, _, _, _, rfl, hL⟩
  · rintro δ ⟨ls, x, y, z, rfl, hL⟩
    walk_at "vs"
    refine ⟨by decide, by decide, by decide, by decide, ?_⟩
    obtain ⟨er, he, he0, he2⟩ : ∃ er, ixD [D.int 0, .int 1, .int 0, .int 2] (n7 % 4) = some (.int er) ∧ 0 ≤ er ∧ er ≤ 2 := by
      have m0 := Int.emod_nonneg n7 (show (4 : Int) ≠ 0 by omega)
      have m1 := Int.emod_lt_of_pos n7 (show 0 < (4 : Int) by omega)
      generalize n7 % 4 = k at m0 m1
      have : k = 0 ∨ k = 1 ∨ k = 2 ∨ k = 3 := by omega
      rcases this with rfl | rfl | rfl | rfl
      · exact ⟨0, rfl, by decide, by decide⟩
      · exact ⟨1, rfl, by decide, by decide⟩
      · exact ⟨0, rfl, by decide, by decide⟩
      · exact ⟨2, rfl, by decide, by decide⟩
    rw [he]
    exact ⟨_, _, _, _, _, _, rfl, .inr (.inr rfl), .inr (.inr rfl), h ⟨ks, ls, n6 / 5 % 3, er⟩ ⟨hn.1, hn.2, hL.l21, hL.ln, hL.nd, by show 0 ≤ n6 / 5 % 3; omega, by show n6 / 5 % 3 ≤ 2; omega, he0, he2⟩⟩
/-! ### the paths of a net -/
def rowD (r : List Int) : D := .lst (r.map .int)
def ExtN (N : NetV) (r : List Int) (b : Int) : Prop := (0 ≤ b ∧ b < N.ks.length) ∧ b ∉ r ∧ ∃ a, r.getLast? = some a ∧ joinN N a b ≠ none
/-- rows of t + 1 nodes: a host, then switches -/
def RowT (N : NetV) : Nat → List Int → Prop
  | 0, r => ∃ a : Int, (0 ≤ a ∧ a < N.ks.length) ∧ hostN N a = true ∧ r = [a]
  | t + 1, r => ∃ r' b, RowT N t r' ∧ r = r' ++ [b] ∧ ExtN N r' b ∧ hostN N b = false
def FoundT (N : NetV) (t : Nat) (r : List Int) : Prop := ∃ s r' b, s < t ∧ RowT N s r' ∧ r = r' ++ [b] ∧ ExtN N r' b ∧ hostN N b = true
theorem RowT.len {N : NetV} : ∀ {t : Nat} {r : List Int}, RowT N t r → r.length = t + 1
  | 0, r, ⟨a, _, _, e⟩ => by rw [e]; rfl
  | t + 1, r, ⟨r', b, h, e, _⟩ => by rw [e, List.length_append, RowT.len h]; rfl
theorem RowT.last {N : NetV} {t : Nat} {r : List Int} (h : RowT N t r) : ∃ a r0, r = r0 ++ [a] := by
  cases t with
  | zero => obtain ⟨a, _, _, e⟩ := h; exact ⟨a, [], e⟩
  | succ t => obtain ⟨r', b, _, e, _⟩ := h; exact ⟨b, r', e⟩
theorem inD_ints (x : Int) (ns : List Int) : inD (.int x) (ns.map .int) = decide (x ∈ ns) := by
  unfold inD
  rw [Bool.eq_iff_iff, List.any_eq_true, decide_eq_true_eq]
  constructor
  · rintro ⟨d, hd, e⟩
    obtain ⟨y, hy, rfl⟩ := List.mem_map.mp hd
    rw [eqD_int] at e
    exact of_decide_eq_true e ▸ hy
  · intro h
    exact ⟨.int x, List.mem_map.mpr ⟨x, h, rfl⟩, by rw [eqD_int]; simp⟩
theorem set_skip {X Y : List (List Int)} {row : List Int} {j : Nat} {p : Int → Prop} (h : ∀ r, r ∈ X ↔ r ∈ Y ∨ ∃ b : Int, b < j ∧ r = row ++ [b] ∧ p b) (hn : ¬ p (0 + (j : Int))) : ∀ r, r ∈ X ↔ r ∈ Y ∨ ∃ b : Int, b < ((j + 1 : Nat) : Int) ∧ r = row ++ [b] ∧ p b := fun r => by
  rw [h]
  refine or_congr Iff.rfl ⟨fun ⟨b, q1, q⟩ => ⟨b, by omega, q⟩, fun ⟨b, q1, q2, q3⟩ => ⟨b, ?_, q2, q3⟩⟩
  by_cases e : b = 0 + (j : Int)
  · exact absurd (e ▸ q3) hn
  · omega
theorem set_add {X Y : List (List Int)} {row : List Int} {j : Nat} {p : Int → Prop} (h : ∀ r, r ∈ X ↔ r ∈ Y ∨ ∃ b : Int, b < j ∧ r = row ++ [b] ∧ p b) (hn : p (0 + (j : Int))) : ∀ r, r ∈ X ++ [row ++ [0 + (j : Int)]] ↔ r ∈ Y ∨ ∃ b : Int, b < ((j + 1 : Nat) : Int) ∧ r = row ++ [b] ∧ p b := fun r => by
  rw [List.mem_append, h, List.mem_singleton]
  constructor
  · rintro ((q | ⟨b, q1, q⟩) | q)
    · exact .inl q
    · exact .inr ⟨b, by omega, q⟩
    · exact .inr ⟨_, by omega, q, hn⟩
  · rintro (q | ⟨b, q1, q2, q3⟩)
    · exact .inl (.inl q)
    · by_cases e : b = 0 + (j : Int)
      · exact .inr (by rw [q2, e])
      · exact .inl (.inr ⟨b, by omega, q2, q3⟩)
def c__law_paths : Ct := fun ws Q => ∃ (N : NetV) (m : Nat), ws = [.cl (netD N), .cl (.int ((m + 1 : Nat) : Int))] ∧ NetOk N ∧ m ≤ 4 ∧ ∀ fs : List (List Int), (∀ r, r ∈ fs ↔ FoundT N m r) → fs.length ≤ 100000 → Q (.fr (.fl (fs.map rowD)))
theorem l__law_paths : ∀ ws P, c__law_paths ws P → ws.length = 2 := by rintro ws P ⟨N, m, rfl, _⟩; rfl
/-- _law_paths: slots 0=_law_net_here 1=_law_most 2=_law_found 3=_law_rows 4=_law_a 5=_law_turn 6=_law_longer 7=_law_row 8=_law_b -/
def a__law_paths : AS :=
  aSeq (aSet 2 (aLst (aNil))) (aSeq (aSetC 3 (aLc (iR1 (aCons (aCB fLen1 (aCons (aFld 0 0 (aV 0)) (aNil))) (aNil))) (agN 4) (aB (aBin (dEq) (aBin dIx (aFld 0 0 (aV 0)) (aV 4)) (aC (.str "host")))) (aLst (aCons (aV 4) (aNil))) [4])) (aSeq (aFor (iR1 (aCons (aBin dSub (aV 1) (aC (.int 1))) (aNil))) (agN 5) (aSeq (aSet 6 (aLst (aNil))) (aSeq (aFor (iLst (aV 3)) (agN 7) (aFor (iR1 (aCons (aCB fLen1 (aCons (aFld 0 0 (aV 0)) (aNil))) (aNil))) (agN 8) (aIf (aAnd (aB (aBin (dIn true) (aV 8) (aV 7))) (aB (aBin (dNotN) (aCall c__law_joined (aCons (aV 0) (aCons (aBin dIx (aV 7) (aBin dSub (aCB fLen1 (aCons (aV 7) (aNil))) (aC (.int 1)))) (aCons (aV 8) (aNil))))) (aC .non)))) (aIf (aB (aBin (dEq) (aBin dIx (aFld 0 0 (aV 0)) (aV 8)) (aC (.str "host")))) (aMut "list" 2 mAppend (aCons (aBin dAdd (aV 7) (aLst (aCons (aV 8) (aNil)))) (aNil))) (aMut "list" 6 mAppend (aCons (aBin dAdd (aV 7) (aLst (aCons (aV 8) (aNil)))) (aNil)))) (aNext)))) (aFrz 6 (aSetC 3 (aV 6)))))) (aRetV 2)))
theorem w__law_paths : ∀ ws P, c__law_paths ws P → a__law_paths { nx := fun _ => P (.cl .non), rt := fun w _ => P w } (startA 9 ws) := by
  rintro ws P ⟨N, m, rfl, hN, hm, h⟩
  have n7 := hN.n7
  show a__law_paths _ [.im (.ins 0 [.lst (N.ks.map kD), .lst (N.ls.map lnD), .int N.pr, .int N.er]), .im (.int ((m + 1 : Nat) : Int)), .non, .non, .non, .non, .non, .non, .non]
  have oh : okD (.str "host") = true := okD_k true
  have hK : ∀ i : Int, 0 ≤ i → i < N.ks.length → ixD (N.ks.map kD) i = some (kD (hostN N i)) := fun i q1 q2 => ixD_kD q1 q2
  have eK : ∀ i : Nat, (0 + (i : Int)).toNat = i := fun i => by omega
  unfold a__law_paths
  walk_at "vs"
  refine ⟨by decide, by omega, ?_⟩
  refine lc_map (fun i : Nat => D.int (0 + (i : Int))) (fun i => hostN N (0 + (i : Int))) (fun i => rowD [0 + (i : Int)]) (List.range (N.ks.length : Int).toNat) [] (by simp; omega) (fun i hi K L q1 q2 => ?_) ?_
  · have hi : i < N.ks.length := by have := List.mem_range.mp hi; omega
    walk_at "vs"
    rw [hK _ (by omega) (by omega)]
    walk_at "vs"
    simp only [okD_k, oh, eqD_kh, true_and]
    cases hb : hostN N (0 + (i : Int)) with
    | true =>
      simp only [hb, if_true]
      exact ⟨by decide, q1 hb⟩
    | false =>
      simp only [hb, Bool.false_eq_true, if_false]
      exact q2 hb
  obtain ⟨rs0, hrs0⟩ : ∃ rs0 : List (List Int), rs0 = ((List.range (N.ks.length : Int).toNat).filter fun (i : Nat) => hostN N (0 + (i : Int))).map fun (i : Nat) => [0 + (i : Int)] := ⟨_, rfl⟩
  have e0 : ((List.range (N.ks.length : Int).toNat).filter fun (i : Nat) => hostN N (0 + (i : Int))).map (fun (i : Nat) => rowD [0 + (i : Int)]) = rs0.map rowD := by rw [hrs0, List.map_map]; rfl
  rw [List.nil_append, e0]
  have hr0 : ∀ r, r ∈ rs0 ↔ RowT N 0 r := fun r => by
    rw [hrs0, List.mem_map]
    constructor
    · rintro ⟨i, hi, rfl⟩
      obtain ⟨h1, h2⟩ := List.mem_filter.mp hi
      have := List.mem_range.mp h1
      exact ⟨0 + (i : Int), by omega, h2, rfl⟩
    · rintro ⟨a, h1, h2, rfl⟩
      have e : 0 + ((a.toNat : Nat) : Int) = a := by omega
      exact ⟨a.toNat, List.mem_filter.mpr ⟨List.mem_range.mpr (by omega), by rw [e]; exact h2⟩, by rw [e]⟩
  have hl0 : rs0.length ≤ 7 := by
    rw [hrs0, List.length_map]
    have := List.length_filter_le (fun (i : Nat) => hostN N (0 + (i : Int))) (List.range (N.ks.length : Int).toNat)
    rw [List.length_range] at this
    omega
  walk_at "vs"
  refine ⟨by omega, ?_⟩
  refine for_up (fun t δ => ∃ (fs rs : List (List Int)) (a b c d e : AV), δ = [.im (.ins 0 [.lst (N.ks.map kD), .lst (N.ls.map lnD), .int N.pr, .int N.er]), .im (.int ((m + 1 : Nat) : Int)), .ow false (.fl (fs.map rowD)), .im (.lst (rs.map rowD)), a, b, c, d, e] ∧
    (∀ r, r ∈ rs ↔ RowT N t r) ∧ (∀ r, r ∈ fs ↔ FoundT N t r) ∧ rs.length ≤ 7 ^ (t + 1) ∧ fs.length ≤ 16807 * t) ⟨[], rs0, _, _, _, _, _, rfl, hr0, fun r => ⟨(fun q => nomatch q), fun ⟨s, _, _, q, _⟩ => by omega⟩, by simpa using hl0, by simp⟩ ?_ ?_
  · rintro t δ ht ⟨fs, rs, a, b, c, d, e, rfl, hR, hF, hl1, hl2⟩
    have ht : t < 4 := by omega
    have h7 : 7 ^ (t + 1) ≤ 2401 := by
      have : t = 0 ∨ t = 1 ∨ t = 2 ∨ t = 3 := by omega
      rcases this with rfl | rfl | rfl | rfl <;> decide
    walk_at "vs"
    refine ⟨by decide, ?_⟩
    refine for_map rowD rs (fun rem δ => ∃ (dn fs2 lg : List (List Int)) (x y : AV), δ = [.im (.ins 0 [.lst (N.ks.map kD), .lst (N.ls.map lnD), .int N.pr, .int N.er]), .im (.int ((m + 1 : Nat) : Int)), .ow false (.fl (fs2.map rowD)), .im (.lst (rs.map rowD)), a, .im (.int (0 + (t : Int))), .ow false (.fl (lg.map rowD)), x, y] ∧ rs = dn ++ rem ∧
      (∀ r, r ∈ lg ↔ ∃ r' b, r' ∈ dn ∧ r = r' ++ [b] ∧ ExtN N r' b ∧ hostN N b = false) ∧ (∀ r, r ∈ fs2 ↔ r ∈ fs ∨ ∃ r' b, r' ∈ dn ∧ r = r' ++ [b] ∧ ExtN N r' b ∧ hostN N b = true) ∧ lg.length ≤ 7 * dn.length ∧ fs2.length ≤ fs.length + 7 * dn.length)
      ⟨[], fs, [], _, _, rfl, rfl, fun r => ⟨(fun q => nomatch q), fun ⟨_, _, q, _⟩ => nomatch q⟩, fun r => ⟨.inl, fun q => q.elim id fun ⟨_, _, q, _⟩ => nomatch q⟩, by simp, by simp⟩ ?_ ?_
    · rintro row rem δ _ ⟨dn, fs2, lg, x, y, rfl, hdn, hG, hF2, hl3, hl4⟩
      have hdl : dn.length < rs.length := by rw [hdn]; simp
      obtain ⟨la, r0, hrow⟩ := (hR row).mp (by rw [hdn]; simp) |>.last
      have hlast : row.getLast? = some la := by rw [hrow]; simp
      have hix : ixD (row.map D.int) ((row.length : Int) - 1) = some (.int la) := by
        refine ixD_map D.int (by rw [hrow]; simp) ?_
        rw [hrow]
        have e : (((r0 ++ [la]).length : Int) - 1).toNat = r0.length := by simp
        rw [e]; simp
      have hrl : row.length ≤ 4 := by
        have := ((hR row).mp (by rw [hdn]; simp)).len
        omega
      have ork : okD (.lst (row.map D.int)) = true := okD_map (dep_int 0) (by decide)
      rw [show rowD row = .lst (row.map D.int) from rfl]
      walk_at "vs"
      refine ⟨by omega, ?_⟩
      refine for_up (fun j δ => ∃ (fs3 lg3 : List (List Int)) (y : AV), δ = [.im (.ins 0 [.lst (N.ks.map kD), .lst (N.ls.map lnD), .int N.pr, .int N.er]), .im (.int ((m + 1 : Nat) : Int)), .ow false (.fl (fs3.map rowD)), .im (.lst (rs.map rowD)), a, .im (.int (0 + (t : Int))), .ow false (.fl (lg3.map rowD)), .im (.lst (row.map D.int)), y] ∧
        (∀ r, r ∈ lg3 ↔ r ∈ lg ∨ ∃ b : Int, b < j ∧ r = row ++ [b] ∧ ExtN N row b ∧ hostN N b = false) ∧ (∀ r, r ∈ fs3 ↔ r ∈ fs2 ∨ ∃ b : Int, b < j ∧ r = row ++ [b] ∧ ExtN N row b ∧ hostN N b = true) ∧ lg3.length ≤ lg.length + j ∧ fs3.length ≤ fs2.length + j)
        ⟨fs2, lg, _, rfl, fun r => ⟨.inl, fun q => q.elim id fun ⟨b, q, _, q2, _⟩ => by have := q2.1; omega⟩, fun r => ⟨.inl, fun q => q.elim id fun ⟨b, q, _, q2, _⟩ => by have := q2.1; omega⟩, by simp, by simp⟩ ?_ ?_
      · rintro j δ hj ⟨fs3, lg3, y, rfl, hG3, hF3, hl5, hl6⟩
        have hj : j < N.ks.length := by omega
        have skip : ¬ ExtN N row (0 + (j : Int)) → ∃ (fs3' lg3' : List (List Int)) (y : AV), ([.im (.ins 0 [.lst (N.ks.map kD), .lst (N.ls.map lnD), .int N.pr, .int N.er]), .im (.int ((m + 1 : Nat) : Int)), .ow false (.fl (fs3.map rowD)), .im (.lst (rs.map rowD)), a, .im (.int (0 + (t : Int))), .ow false (.fl (lg3.map rowD)), .im (.lst (row.map D.int)), .im (.int (0 + (j : Int)))] : List AV) =
            [.im (.ins 0 [.lst (N.ks.map kD), .lst (N.ls.map lnD), .int N.pr, .int N.er]), .im (.int ((m + 1 : Nat) : Int)), .ow false (.fl (fs3'.map rowD)), .im (.lst (rs.map rowD)), a, .im (.int (0 + (t : Int))), .ow false (.fl (lg3'.map rowD)), .im (.lst (row.map D.int)), y] ∧
            (∀ r, r ∈ lg3' ↔ r ∈ lg ∨ ∃ b : Int, b < ((j + 1 : Nat) : Int) ∧ r = row ++ [b] ∧ ExtN N row b ∧ hostN N b = false) ∧ (∀ r, r ∈ fs3' ↔ r ∈ fs2 ∨ ∃ b : Int, b < ((j + 1 : Nat) : Int) ∧ r = row ++ [b] ∧ ExtN N row b ∧ hostN N b = true) ∧ lg3'.length ≤ lg.length + (j + 1) ∧ fs3'.length ≤ fs2.length + (j + 1) := fun ne => by
          exact ⟨fs3, lg3, _, rfl, set_skip hG3 (fun q => ne q.1), set_skip hF3 (fun q => ne q.1), by omega, by omega⟩
        walk_at "vs"
        simp only [ork, inD_ints, true_and]
        by_cases hin : (0 + (j : Int)) ∈ row
        · rw [decide_eq_true hin]
          exact skip fun q => q.2.1 hin
        · rw [decide_eq_false hin]
          simp only [Bool.not_false, if_true]
          rw [hix]
          walk_at "vs"
          refine ⟨N, la, 0 + (j : Int), rfl, ?_⟩
          cases hj2 : joinN N la (0 + (j : Int)) with
          | none =>
            simp only [optI]
            exact skip fun ⟨_, _, a', q1, q2⟩ => by
              rw [hlast] at q1
              cases q1
              exact q2 hj2
          | some tk =>
            have hE : ExtN N row (0 + (j : Int)) := ⟨by omega, hin, la, hlast, by rw [hj2]; exact fun z => nomatch z⟩
            simp only [optI]
            rw [hK _ (by omega) (by omega)]
            walk_at "vs"
            simp only [okD_k, oh, eqD_kh, true_and]
            have eR : ∀ X : List (List Int), X.map rowD ++ [D.lst ((row ++ [0 + (j : Int)]).map D.int)] = (X ++ [row ++ [0 + (j : Int)]]).map rowD := fun X => (List.map_append (f := rowD) (l₁ := X) (l₂ := [row ++ [0 + (j : Int)]])).symm
            cases hb : hostN N (0 + (j : Int)) with
            | true =>
              simp only [hb, if_true]
              rw [eR]
              exact ⟨by decide, by omega, by omega, _, lg3, _, rfl, set_skip hG3 (fun q => by rw [hb] at q; exact nomatch q.2), set_add hF3 ⟨hE, hb⟩, by omega, by rw [List.length_append, List.length_singleton]; omega⟩
            | false =>
              simp only [hb, Bool.false_eq_true, if_false]
              rw [eR]
              exact ⟨by decide, by omega, by omega, fs3, _, _, rfl, set_add hG3 ⟨hE, hb⟩, set_skip hF3 (fun q => by rw [hb] at q; exact nomatch q.2), by rw [List.length_append, List.length_singleton]; omega, by omega⟩
      · rintro δ ⟨fs3, lg3, y, rfl, hG3, hF3, hl5, hl6⟩
        have hbd : ∀ b : Int, ExtN N row b → b < (((N.ks.length : Int).toNat : Nat) : Int) := fun b q => by have := q.1.2; omega
        refine ⟨dn ++ [row], fs3, lg3, _, _, rfl, by rw [hdn]; simp, fun r => ?_, fun r => ?_, by rw [List.length_append, List.length_singleton]; omega, by rw [List.length_append, List.length_singleton]; omega⟩
        · rw [hG3, hG]
          constructor
          · rintro (⟨r', b, q1, q⟩ | ⟨b, _, q1, q2, q3⟩)
            · exact ⟨r', b, List.mem_append_left _ q1, q⟩
            · exact ⟨row, b, by simp, q1, q2, q3⟩
          · rintro ⟨r', b, q1, q2, q3, q4⟩
            rcases List.mem_append.mp q1 with q | q
            · exact .inl ⟨r', b, q, q2, q3, q4⟩
            · have q := List.mem_singleton.mp q
              subst q
              exact .inr ⟨b, hbd b q3, q2, q3, q4⟩
        · rw [hF3, hF2]
          constructor
          · rintro ((q | ⟨r', b, q1, q⟩) | ⟨b, _, q1, q2, q3⟩)
            · exact .inl q
            · exact .inr ⟨r', b, List.mem_append_left _ q1, q⟩
            · exact .inr ⟨row, b, by simp, q1, q2, q3⟩
          · rintro (q | ⟨r', b, q1, q2, q3, q4⟩)
            · exact .inl (.inl q)
            · rcases List.mem_append.mp q1 with q | q
              · exact .inl (.inr ⟨r', b, q, q2, q3, q4⟩)
              · have q := List.mem_singleton.mp q
                subst q
                exact .inr ⟨b, hbd b q3, q2, q3, q4⟩
    · rintro δ ⟨dn, fs2, lg, x, y, rfl, hdn, hG, hF2, hl3, hl4⟩
      rw [List.append_nil] at hdn
      subst hdn
      walk_at "vs"
      refine ⟨fs2, lg, _, _, _, _, _, rfl, fun r => ?_, fun r => ?_, ?_, ?_⟩
      · rw [hG]
        exact ⟨fun ⟨r', b, q1, q⟩ => ⟨r', b, (hR r').mp q1, q⟩, fun ⟨r', b, q1, q⟩ => ⟨r', b, (hR r').mpr q1, q⟩⟩
      · rw [hF2, hF]
        constructor
        · rintro (⟨s, r', b, q1, q⟩ | ⟨r', b, q1, q⟩)
          · exact ⟨s, r', b, by omega, q⟩
          · exact ⟨t, r', b, by omega, (hR r').mp q1, q⟩
        · rintro ⟨s, r', b, q1, q2, q⟩
          by_cases e : s = t
          · subst e
            exact .inr ⟨r', b, (hR r').mpr q2, q⟩
          · exact .inl ⟨s, r', b, by omega, q2, q⟩
      · rw [Nat.pow_succ]; omega
      · omega
  · rintro δ ⟨fs, rs, a, b, c, d, e, rfl, hR, hF, hl1, hl2⟩
    have em : (((m + 1 : Nat) : Int) - 1).toNat = m := by omega
    rw [em] at hF hl2
    walk_at "vs"
    exact h fs hF (by omega)
end Vl
local macro_rules | `(tactic| walk_at "vs") => `(tactic| simp only [Vl.aSeq, Vl.aFor_eq, Vl.aIf, Vl.aB, Vl.aBin, Vl.aUn, Vl.aV, Vl.slotW, Vl.gt_z, Vl.gt_s, Vl.aCB, Vl.aCall, Vl.aCons, Vl.aNil, Vl.argW, Vl.dLt_eq, Vl.dLe_eq, Vl.dGt_eq, Vl.dGe_eq, Vl.dI0, Vl.dI, Vl.dAdd, Vl.dSub_eq, Vl.dMul, Vl.dDiv_eq, Vl.dMod_eq, Vl.dPow_eq, Vl.dShl_eq, Vl.dNeg, Vl.dNot, Vl.dIsN, Vl.dNotN, Vl.dEq, Vl.dNe, Vl.dIn, Vl.dIx, Vl.fLen_lst, Vl.fLen_tup, Vl.fLen_ow, Vl.fLen_bw, Vl.fLen_scr, Vl.fLen_str, Vl.fInt_int, Vl.fInt_bl, Vl.fAbs_int, Vl.fMax_int, Vl.fMin_int, Vl.fGcd_int, Vl.fLcm_int, Vl.fList_lst, Vl.fList_tup, Vl.fList_ow, Vl.fList_bw, Vl.fList_scr, Vl.seqC, Vl.lstC, Vl.itemsC, Vl.clW, Vl.W.toD, Vl.M.toD, Vl.clDs, Option.map_some, Option.map_none,
  Vl.aRet, Vl.aRetV, Vl.aRetN, Vl.aNext, Vl.aBreak, Vl.aCont, Vl.aC, Vl.aSet, Vl.aSetC, Vl.slotA, Vl.aDrop, Vl.aAsgG, Vl.agN, Vl.agT, Vl.agCons, Vl.agNil, Vl.iLst, Vl.iTup, Vl.iR1, Vl.iR2, Vl.aTup, Vl.aLst, Vl.aAnd, Vl.aOr, Vl.aNot, Vl.aAndV, Vl.aOrV, Vl.aIfE, Vl.aSl, Vl.aoS, Vl.aoN, Vl.aChain, Vl.aAugAdd, Vl.aAugSub, Vl.aMut, Vl.aMutS, Vl.mAppend, Vl.mPop, Vl.mPopAt, Vl.mReverse, Vl.tyM, Vl.aFrz, Vl.frz, Vl.aSetIx, Vl.aLc, Vl.wipeA, Vl.aYes,
  List.set_cons_zero, List.set_cons_succ, List.length_map, List.length_cons, List.length_nil, decide_eq_true_eq, Bool.not_true, Bool.not_false, if_true, if_false, Bool.false_eq_true, Vl.okD_int, Vl.okD_bl, Vl.okD_non, Vl.eqD_int, Vl.eqD_bl, Vl.eqD_non, true_and, and_true, Vl.snoc_int, Vl.aIsi, Vl.isi_bl_bool, Vl.isi_bl_int, Vl.isi_int_int, Vl.isi_int_bool, Vl.isi_non_int, Vl.isi_non_bool, Vl.isi_lst_list, Vl.isi_tup_list, Vl.isi_tup_tuple, Vl.isi_non_tuple, Vl.isi_non_list, Vl.isi_str_str, Vl.isi_lst_bool, Vl.isi_str_bool, Vl.isi_tup_bool, Vl.ixD_0, Vl.ixD_1, Vl.ixD_2, Vl.ixD_3, Vl.ixD_4, Vl.ixD_5, Vl.ixD_6, Vl.ixD_7, Vl.ixD_8, Vl.ixD_9, Vl.ixD_10, Vl.ixD_11, Vl.aFld, Vl.aMeth, Vl.aMake, Vl.aMakeK, Vl.mInsert, Vl.aIndex, Vl.fMax1_eq, Vl.fSorted_eq, List.getElem?_cons_zero, List.getElem?_cons_succ, List.cons_append, List.nil_append, Vl.aPar, Vl.aIsO, Vl.dNeS, Vl.aDNewT, Vl.dEqO, Vl.aDPut, Vl.aDGet, Vl.dctC])
namespace Vl
open PySem PySem.Spec PyProof.Rows L2

/-! ### streams, entries -/
structure StrV where
  per : Int
  len : Int
  dl : Int
  path : List Int
def strDs (s : StrV) : List D := [.int s.per, .int s.len, .int s.dl, .lst (s.path.map .int)]
def strD (s : StrV) : D := .ins 1 (strDs s)
structure EntV where
  st : StrV
  os : List Int
def entD (e : EntV) : D := .tup [.ins 1 [.int e.st.per, .int e.st.len, .int e.st.dl, .lst (e.st.path.map .int)], .lst (e.os.map .int)]
def g_Stream (ds : List D) : Prop := ∃ s : StrV, ds = [.int s.per, .int s.len, .int s.dl, .lst (s.path.map .int)]
theorem okD_il (ns : List Int) : okD (.lst (ns.map D.int)) = true := okD_map (dep_int 0) (by decide)
def c_Stream___init__ : Ini := fun ws P => ∃ (p l d : Int) (wk : W) (kd : List D), ws = [.cl (.int p), .cl (.int l), .cl (.int d), wk] ∧ RdL wk kd ∧ P [.int p, .int l, .int d, .lst kd]
theorem l_Stream___init__ : ∀ ws P, c_Stream___init__ ws P → ws.length + 1 = 5 := by rintro ws P ⟨p, l, d, wk, kd, rfl, _⟩; rfl
/-- Stream.__init__: slots 0=self 1=period 2=length 3=deadline 4=path -/
def a_Stream___init__ : AF :=
  aFs (aF 0 (aV 1)) (aFs (aF 1 (aV 2)) (aFs (aF 2 (aV 3)) (aF 3 (aCB fList (aCons (aV 4) (aNil))))))
theorem w_Stream___init__ : ∀ ws P, c_Stream___init__ ws P → a_Stream___init__ (.non :: ws.map avOf) [] fun ds => ds.length = 4 ∧ P ds := by
  rintro ws P ⟨p, l, d, wk, kd, rfl, h1, h⟩
  unfold a_Stream___init__ aFs aF
  rcases h1 with rfl | rfl | rfl <;>
  · simp only [List.map_cons, List.map_nil, avOf]
    walk_at "vs"
    first | exact ⟨rfl, h⟩ | exact h | exact ⟨rfl, rfl, rfl, rfl, rfl, h⟩
def c_Stream___eq__ : Ct := fun ws Q => ∃ (s : StrV) (d : D), ws = [.cl (.ins 1 [.int s.per, .int s.len, .int s.dl, .lst (s.path.map .int)]), .cl d] ∧
  ((∃ s' : StrV, d = .ins 1 [.int s'.per, .int s'.len, .int s'.dl, .lst (s'.path.map .int)] ∧ Q (.cl (.bl (decide (s.per = s'.per ∧ s.len = s'.len ∧ s.dl = s'.dl ∧ s.path = s'.path))))) ∨ (∃ ds, d = .lst ds ∧ Q (.cl (.bl false))) ∨ ∃ i, d = .int i ∧ Q (.cl (.bl false)))
theorem l_Stream___eq__ : ∀ ws P, c_Stream___eq__ ws P → ws.length = 2 := by rintro ws P ⟨s, d, rfl, _⟩; rfl
theorem hct_Stream : ∀ ds Q, g_Stream ds → Q (.cl (.bl true)) → c_Stream___eq__ [.cl (.ins 1 ds), .cl (.ins 1 ds)] Q := by
  rintro ds Q ⟨s, rfl⟩ q
  exact ⟨s, _, rfl, .inl ⟨s, rfl, by simpa using q⟩⟩
/-- Stream.__eq__: slots 0=self 1=other -/
def a_Stream___eq__ : AS :=
  aSeq (aIf (aNot (aB (aIsO 1 (aV 1)))) (aRet (aC (.bl false))) (aNext)) (aSeq (aIf (aOr (aB (aBin (dNe) (aFld 1 0 (aV 0)) (aFld 1 0 (aV 1)))) (aB (aBin (dNe) (aFld 1 1 (aV 0)) (aFld 1 1 (aV 1))))) (aRet (aC (.bl false))) (aNext)) (aRet (aAndV (aBin (dEq) (aFld 1 2 (aV 0)) (aFld 1 2 (aV 1))) (aBin (dEq) (aFld 1 3 (aV 0)) (aFld 1 3 (aV 1))))))
theorem w_Stream___eq__ : ∀ ws P, c_Stream___eq__ ws P → a_Stream___eq__ { nx := fun _ => P (.cl .non), rt := fun w _ => P w } (startA 2 ws) := by
  rintro ws P ⟨s, d, rfl, h⟩
  show a_Stream___eq__ _ [.im (.ins 1 [.int s.per, .int s.len, .int s.dl, .lst (s.path.map .int)]), .im d]
  unfold a_Stream___eq__
  rcases h with ⟨s', rfl, h⟩ | ⟨ds, rfl, h⟩ | ⟨i, rfl, h⟩
  · walk_at "vs"
    simp only [okD_il, eqD_ints, true_and]
    by_cases q1 : s.per = s'.per
    · by_cases q2 : s.len = s'.len
      · by_cases q3 : s.dl = s'.dl
        · by_cases q4 : s.path = s'.path
          · simpa [q1, q2, q3, q4] using h
          · simpa [q1, q2, q3, q4] using h
        · simpa [q1, q2, q3] using h
      · simpa [q1, q2] using h
    · simpa [q1] using h
  · walk_at "vs"
    exact h
  · walk_at "vs"
    exact h
/-! ### ports -/
def portsL : List Int → List (Int × Int)
  | a :: b :: r => (a, b) :: portsL (b :: r)
  | _ => []
theorem portsL_len : ∀ p : List Int, (portsL p).length = p.length - 1
  | [] => rfl
  | [_] => rfl
  | a :: b :: r => by
    rw [portsL, List.length_cons, portsL_len (b :: r)]
    simp
theorem portsL_at : ∀ {p : List Int} {k : Nat} {a b : Int}, p[k]? = some a → p[k + 1]? = some b → (portsL p)[k]? = some (a, b)
  | [], _, _, _, h, _ => by simp at h
  | [_], 0, _, _, _, h => by simp at h
  | [_], k + 1, _, _, h, _ => by simp at h
  | x :: y :: r, 0, a, b, h1, h2 => by
    simp at h1 h2
    subst h1; subst h2
    rfl
  | x :: y :: r, k + 1, a, b, h1, h2 => by
    rw [portsL, List.getElem?_cons_succ]
    exact portsL_at (by simpa using h1) (by simpa using h2)
theorem portsL_of {p : List Int} {k : Nat} {q : Int × Int} (h : (portsL p)[k]? = some q) : p[k]? = some q.1 ∧ p[k + 1]? = some q.2 := by
  have hk : k < (portsL p).length := by
    apply Classical.byContradiction
    intro z
    rw [List.getElem?_eq_none_iff.mpr (by omega)] at h
    cases h
  rw [portsL_len] at hk
  have e1 : p[k]? = some p[k] := List.getElem?_eq_getElem (by omega)
  have e2 : p[k + 1]? = some p[k + 1] := List.getElem?_eq_getElem (by omega)
  have e3 := portsL_at e1 e2
  rw [h] at e3
  cases e3
  exact ⟨e1, e2⟩
def c_ports_of : Ct := fun ws Q => ∃ p : List Int, ws = [.cl (.lst (p.map .int))] ∧ (1 ≤ p.length ∧ p.length ≤ 1000) ∧ Q (.fr (.fl ((portsL p).map pD)))
theorem l_ports_of : ∀ ws P, c_ports_of ws P → ws.length = 1 := by rintro ws P ⟨p, rfl, _⟩; rfl
/-- ports_of: slots 0=path 1=k -/
def a_ports_of : AS :=
  aRet (aLc (iR1 (aCons (aBin dSub (aCB fLen1 (aCons (aV 0) (aNil))) (aC (.int 1))) (aNil))) (agN 1) (aYes) (aTup (aCons (aBin dIx (aV 0) (aV 1)) (aCons (aBin dIx (aV 0) (aBin dAdd (aV 1) (aC (.int 1)))) (aNil)))) [1])
theorem w_ports_of : ∀ ws P, c_ports_of ws P → a_ports_of { nx := fun _ => P (.cl .non), rt := fun w _ => P w } (startA 2 ws) := by
  rintro ws P ⟨p, rfl, hl, h⟩
  show a_ports_of _ [.im (.lst (p.map .int)), .non]
  unfold a_ports_of
  walk_at "vs"
  refine ⟨by omega, ?_⟩
  have en : ((p.length : Int) - 1).toNat = p.length - 1 := by omega
  rw [en]
  refine lc_all (fun i : Nat => D.int (0 + (i : Int))) (fun i => pD ((p.getD i 0), p.getD (i + 1) 0)) (List.range (p.length - 1)) (by simp; omega) (fun i hi K hK => ?_) ?_
  · have hi := List.mem_range.mp hi
    have e1 : p[(0 + (i : Int)).toNat]? = some (p.getD i 0) := by
      rw [show (0 + (i : Int)).toNat = i by omega, List.getD_eq_getElem?_getD, List.getElem?_eq_getElem (show i < p.length by omega)]; rfl
    have e2 : p[(0 + (i : Int) + 1).toNat]? = some (p.getD (i + 1) 0) := by
      rw [show (0 + (i : Int) + 1).toNat = i + 1 by omega, List.getD_eq_getElem?_getD, List.getElem?_eq_getElem (show i + 1 < p.length by omega)]; rfl
    walk_at "vs"
    rw [ixD_map D.int (by omega) e1]
    walk_at "vs"
    rw [ixD_map D.int (by omega) e2]
    walk_at "vs"
    exact ⟨by decide, hK⟩
  · have e : (List.range (p.length - 1)).map (fun i : Nat => pD (p.getD i 0, p.getD (i + 1) 0)) = (portsL p).map pD := by
      apply List.ext_getElem?
      intro i
      rw [List.getElem?_map, List.getElem?_map]
      by_cases hi : i < p.length - 1
      · have e1 : p[i]? = some (p.getD i 0) := by rw [List.getD_eq_getElem?_getD, List.getElem?_eq_getElem (show i < p.length by omega)]; rfl
        have e2 : p[i + 1]? = some (p.getD (i + 1) 0) := by rw [List.getD_eq_getElem?_getD, List.getElem?_eq_getElem (show i + 1 < p.length by omega)]; rfl
        rw [portsL_at e1 e2, List.getElem?_range hi]
        rfl
      · rw [List.getElem?_eq_none_iff.mpr (by simp; omega), List.getElem?_eq_none_iff.mpr (by rw [portsL_len]; omega)]
        rfl
    rw [e]
    walk_at "vs"
    exact h
/-! ### paths, entries that are in order -/
structure PathOk (N : NetV) (p : List Int) : Prop where
  l2 : 2 ≤ p.length
  l6 : p.length ≤ 6
  nd : p.Nodup
  inn : ∀ x ∈ p, 0 ≤ x ∧ x < N.ks.length
  jn : ∀ k a b, p[k]? = some a → p[k + 1]? = some b → joinN N a b ≠ none
theorem PathOk.snoc {N : NetV} {p : List Int} {b : Int} (hl : p.length ≤ 5) (h1 : 1 ≤ p.length) (nd : p.Nodup) (inn : ∀ x ∈ p, 0 ≤ x ∧ x < N.ks.length) (jn : ∀ k a b, p[k]? = some a → p[k + 1]? = some b → joinN N a b ≠ none) (hE : ExtN N p b) : PathOk N (p ++ [b]) := by
  refine ⟨by rw [List.length_append, List.length_singleton]; omega, by rw [List.length_append, List.length_singleton]; omega, ?_, fun x hx => ?_, fun k a c q1 q2 => ?_⟩
  · rw [List.nodup_append]
    exact ⟨nd, List.nodup_cons.mpr ⟨List.not_mem_nil, List.nodup_nil⟩, fun x hx y hy e => by rw [List.mem_singleton.mp hy] at e; exact hE.2.1 (e ▸ hx)⟩
  · rcases List.mem_append.mp hx with q | q
    · exact inn x q
    · rw [List.mem_singleton.mp q]; exact hE.1
  · by_cases e : k + 1 < p.length
    · rw [List.getElem?_append_left (by omega)] at q1
      rw [List.getElem?_append_left e] at q2
      exact jn k a c q1 q2
    · have hk : k + 1 = p.length := by
        have : k + 1 < (p ++ [b]).length := by
          apply Classical.byContradiction
          intro z
          rw [List.getElem?_eq_none_iff.mpr (by omega)] at q2
          cases q2
        rw [List.length_append, List.length_singleton] at this
        omega
      obtain ⟨a', g1, g2⟩ := hE.2.2
      rw [List.getElem?_append_left (by omega)] at q1
      rw [List.getElem?_append_right (by omega), show k + 1 - p.length = 0 by omega] at q2
      rw [List.getLast?_eq_getElem?, show p.length - 1 = k by omega, q1] at g1
      cases g1
      cases q2
      exact g2
theorem RowT.ok {N : NetV} : ∀ {t : Nat} {r : List Int}, RowT N t r → r.Nodup ∧ (∀ x ∈ r, 0 ≤ x ∧ x < N.ks.length) ∧ ∀ k a b, r[k]? = some a → r[k + 1]? = some b → joinN N a b ≠ none
  | 0, r, ⟨a, h, _, e⟩ => by
    subst e
    exact ⟨List.nodup_cons.mpr ⟨List.not_mem_nil, List.nodup_nil⟩, fun x hx => by rw [List.mem_singleton.mp hx]; exact h, fun k a b _ q => by simp at q⟩
  | t + 1, r, ⟨r', b, h, e, hE, _⟩ => by
    subst e
    obtain ⟨i1, i2, i3⟩ := RowT.ok h
    refine ⟨?_, fun x hx => ?_, fun k a c q1 q2 => ?_⟩
    · rw [List.nodup_append]
      exact ⟨i1, List.nodup_cons.mpr ⟨List.not_mem_nil, List.nodup_nil⟩, fun x hx y hy e => by rw [List.mem_singleton.mp hy] at e; exact hE.2.1 (e ▸ hx)⟩
    · rcases List.mem_append.mp hx with q | q
      · exact i2 x q
      · rw [List.mem_singleton.mp q]; exact hE.1
    · by_cases e : k + 1 < r'.length
      · rw [List.getElem?_append_left (by omega)] at q1
        rw [List.getElem?_append_left e] at q2
        exact i3 k a c q1 q2
      · have hk : k + 1 = r'.length := by
          have : k + 1 < (r' ++ [b]).length := by
            apply Classical.byContradiction
            intro z
            rw [List.getElem?_eq_none_iff.mpr (by omega)] at q2
            cases q2
          rw [List.length_append, List.length_singleton] at this
          omega
        obtain ⟨a', g1, g2⟩ := hE.2.2
        rw [List.getElem?_append_left (by omega)] at q1
        rw [List.getElem?_append_right (by omega), show k + 1 - r'.length = 0 by omega] at q2
        rw [List.getLast?_eq_getElem?, show r'.length - 1 = k by omega, q1] at g1
        cases g1
        cases q2
        exact g2
theorem FoundT.ok {N : NetV} {m : Nat} (hm : m ≤ 4) {r : List Int} (h : FoundT N m r) : PathOk N r := by
  obtain ⟨s, r', b, hs, h, rfl, hE, _⟩ := h
  obtain ⟨i1, i2, i3⟩ := h.ok
  have hl := h.len
  exact PathOk.snoc (by omega) (by omega) i1 i2 i3 hE
structure EntOk (N : NetV) (e : EntV) : Prop where
  p : PathOk N e.st.path
  lo : e.os.length + 1 = e.st.path.length
  per1 : 1 ≤ e.st.per
  per2 : e.st.per ≤ 12
  len1 : 1 ≤ e.st.len
/-- when what leaves at o over the line is there and may go on -/
def arrN (N : NetV) (a b o len : Int) : Int := o + len + (joinN N a b).getD 0 + (if hostN N b = true then 0 else N.pr)
def c_window_of : Ct := fun ws Q => ∃ (e : EntV) (h : Nat) (o : Int), ws = [.cl (entD e), .cl (.int h)] ∧ e.os[h]? = some o ∧ Q (.cl (.tup [.int o, .int e.st.len, .int e.st.per]))
theorem l_window_of : ∀ ws P, c_window_of ws P → ws.length = 2 := by rintro ws P ⟨e, h, o, rfl, _⟩; rfl
/-- window_of: slots 0=entry 1=hop 2=stream 3=offsets -/
def a_window_of : AS :=
  aSeq (aAsgG (aV 0) (agT 2 (agCons (agN 2) (agCons (agN 3) (agNil))))) (aRet (aTup (aCons (aBin dIx (aV 3) (aV 1)) (aCons (aFld 1 1 (aV 2)) (aCons (aFld 1 0 (aV 2)) (aNil))))))
theorem w_window_of : ∀ ws P, c_window_of ws P → a_window_of { nx := fun _ => P (.cl .non), rt := fun w _ => P w } (startA 4 ws) := by
  rintro ws P ⟨e, h, o, rfl, ho, q⟩
  show a_window_of _ [.im (.tup [.ins 1 [.int e.st.per, .int e.st.len, .int e.st.dl, .lst (e.st.path.map .int)], .lst (e.os.map .int)]), .im (.int h), .non, .non]
  unfold a_window_of
  walk_at "vs"
  rw [ixD_map D.int (by omega) (show e.os[(h : Int).toNat]? = some o from ho)]
  walk_at "vs"
  exact ⟨by decide, q⟩
def c_arrival_of : Ct := fun ws Q => ∃ (N : NetV) (e : EntV) (h : Nat) (a b o : Int), ws = [.cl (netD N), .cl (entD e), .cl (.int h)] ∧ e.st.path[h]? = some a ∧ e.st.path[h + 1]? = some b ∧ e.os[h]? = some o ∧ joinN N a b ≠ none ∧ (0 ≤ b ∧ b < N.ks.length) ∧ Q (.cl (.int (arrN N a b o e.st.len)))
theorem l_arrival_of : ∀ ws P, c_arrival_of ws P → ws.length = 3 := by rintro ws P ⟨N, e, h, a, b, o, rfl, _⟩; rfl
/-- arrival_of: slots 0=net 1=entry 2=hop 3=stream 4=offsets 5=a 6=b 7=ticks -/
def a_arrival_of : AS :=
  aSeq (aAsgG (aV 1) (agT 2 (agCons (agN 3) (agCons (agN 4) (agNil))))) (aSeq (aSetC 5 (aBin dIx (aFld 1 3 (aV 3)) (aV 2))) (aSeq (aSetC 6 (aBin dIx (aFld 1 3 (aV 3)) (aBin dAdd (aV 2) (aC (.int 1))))) (aSeq (aSetC 7 (aBin dAdd (aBin dAdd (aBin dIx (aV 4) (aV 2)) (aFld 1 1 (aV 3))) (aMeth 0 c_Net_delay (aV 0) (aCons (aV 5) (aCons (aV 6) (aNil)))))) (aCut (aIf (aB (aBin (dEq) (aBin dIx (aFld 0 0 (aV 0)) (aV 6)) (aC (.str "switch")))) (aAugAdd 7 (aFld 0 2 (aV 0))) (aNext)) (aRetV 7)))))
theorem w_arrival_of : ∀ ws P, c_arrival_of ws P → a_arrival_of { nx := fun _ => P (.cl .non), rt := fun w _ => P w } (startA 8 ws) := by
  rintro ws P ⟨N, e, h, a, b, o, rfl, ha, hb, ho, hj, hbn, q⟩
  show a_arrival_of _ [.im (.ins 0 [.lst (N.ks.map kD), .lst (N.ls.map lnD), .int N.pr, .int N.er]), .im (.tup [.ins 1 [.int e.st.per, .int e.st.len, .int e.st.dl, .lst (e.st.path.map .int)], .lst (e.os.map .int)]), .im (.int h), .non, .non, .non, .non, .non]
  have os : okD (.str "switch") = true := okD_k false
  unfold arrN at q
  unfold a_arrival_of
  walk_at "vs"
  rw [ixD_map D.int (by omega) (show e.st.path[(h : Int).toNat]? = some a from ha)]
  walk_at "vs"
  rw [ixD_map D.int (by omega) (show e.st.path[((h : Int) + 1).toNat]? = some b from hb)]
  walk_at "vs"
  rw [ixD_map D.int (by omega) (show e.os[(h : Int).toNat]? = some o from ho)]
  walk_at "vs"
  refine ⟨N, a, b, rfl, ?_⟩
  cases hd : joinN N a b with
  | none => exact absurd hd hj
  | some d =>
    rw [hd] at q
    simp only [optI]
    refine cut_by (fun δ => ∃ (x y z u v w t : AV), δ = [x, y, z, u, v, w, t, .im (.int (o + e.st.len + d + (if hostN N b = true then 0 else N.pr)))]) ?_ ?_
    · walk_at "vs"
      rw [ixD_kD hbn.1 hbn.2]
      walk_at "vs"
      simp only [okD_k, os, eqD_ks, true_and]
      show (if (!hostN N b) = true then _ else _)
      cases hb2 : hostN N b with
      | true => exact ⟨_, _, _, _, _, _, _, by rw [if_pos rfl, Int.add_zero]⟩
      | false => exact ⟨_, _, _, _, _, _, _, by rw [if_neg (by decide)]⟩
    · rintro δ ⟨x, y, z, u, v, w, t, rfl⟩
      walk_at "vs"
      exact q
def c__law_ready : Ct := fun ws Q => ∃ (N : NetV) (s : StrV) (os : List Int) (wo : W) (h : Nat) (a b o : Int), ws = [.cl (netD N), .cl (.ins 1 [.int s.per, .int s.len, .int s.dl, .lst (s.path.map .int)]), wo] ∧ RdL wo (os.map .int) ∧ os.length = h + 1 ∧ s.path[h]? = some a ∧ s.path[h + 1]? = some b ∧ os[h]? = some o ∧ joinN N a b ≠ none ∧ (0 ≤ b ∧ b < N.ks.length) ∧ Q (.cl (.int (arrN N a b o s.len)))
theorem l__law_ready : ∀ ws P, c__law_ready ws P → ws.length = 3 := by rintro ws P ⟨N, s, os, wo, h, a, b, o, rfl, _⟩; rfl
/-- _law_ready: slots 0=_law_net_here 1=_law_stream 2=_law_offsets 3=_law_hop 4=_law_a 5=_law_b 6=_law_ticks -/
def a__law_ready : AS :=
  aSeq (aSetC 3 (aBin dSub (aCB fLen1 (aCons (aV 2) (aNil))) (aC (.int 1)))) (aSeq (aSetC 4 (aBin dIx (aFld 1 3 (aV 1)) (aV 3))) (aSeq (aSetC 5 (aBin dIx (aFld 1 3 (aV 1)) (aBin dAdd (aV 3) (aC (.int 1))))) (aSeq (aSetC 6 (aBin dAdd (aBin dAdd (aBin dIx (aV 2) (aV 3)) (aFld 1 1 (aV 1))) (aCall c__law_joined (aCons (aV 0) (aCons (aV 4) (aCons (aV 5) (aNil))))))) (aCut (aIf (aB (aBin (dEq) (aBin dIx (aFld 0 0 (aV 0)) (aV 5)) (aC (.str "switch")))) (aSetC 6 (aBin dAdd (aV 6) (aFld 0 2 (aV 0)))) (aNext)) (aRetV 6)))))
theorem w__law_ready : ∀ ws P, c__law_ready ws P → a__law_ready { nx := fun _ => P (.cl .non), rt := fun w _ => P w } (startA 7 ws) := by
  rintro ws P ⟨N, s, os, wo, h, a, b, o, rfl, hw, hl, ha, hb, ho, hj, hbn, q⟩
  have osw : okD (.str "switch") = true := okD_k false
  unfold arrN at q
  have e0 : ((os.length : Int) - 1) = (h : Int) := by omega
  rcases hw with rfl | rfl | rfl
  case' inl => show a__law_ready _ [.im (.ins 0 [.lst (N.ks.map kD), .lst (N.ls.map lnD), .int N.pr, .int N.er]), .im (.ins 1 [.int s.per, .int s.len, .int s.dl, .lst (s.path.map .int)]), .im (.lst (os.map .int)), .non, .non, .non, .non]
  case' inr.inl => show a__law_ready _ [.im (.ins 0 [.lst (N.ks.map kD), .lst (N.ls.map lnD), .int N.pr, .int N.er]), .im (.ins 1 [.int s.per, .int s.len, .int s.dl, .lst (s.path.map .int)]), .bw (.fl (os.map .int)), .non, .non, .non, .non]
  case' inr.inr => show a__law_ready _ [.im (.ins 0 [.lst (N.ks.map kD), .lst (N.ls.map lnD), .int N.pr, .int N.er]), .im (.ins 1 [.int s.per, .int s.len, .int s.dl, .lst (s.path.map .int)]), .bw (.fl (os.map .int)), .non, .non, .non, .non]
  all_goals
    unfold a__law_ready
    walk_at "vs"
    rw [e0]
    rw [ixD_map D.int (by omega) (show s.path[(h : Int).toNat]? = some a from ha)]
    walk_at "vs"
    rw [ixD_map D.int (by omega) (show s.path[((h : Int) + 1).toNat]? = some b from hb)]
    walk_at "vs"
    rw [ixD_map D.int (by omega) (show os[(h : Int).toNat]? = some o from ho)]
    walk_at "vs"
    refine ⟨N, a, b, rfl, ?_⟩
    cases hd : joinN N a b with
    | none => exact absurd hd hj
    | some d =>
      rw [hd] at q
      simp only [optI]
      refine cut_by (fun δ => ∃ (x y z u v w : AV), δ = [x, y, z, u, v, w, .im (.int (o + s.len + d + (if hostN N b = true then 0 else N.pr)))]) ?_ ?_
      · walk_at "vs"
        rw [ixD_kD hbn.1 hbn.2]
        walk_at "vs"
        simp only [okD_k, osw, eqD_ks, true_and]
        show (if (!hostN N b) = true then _ else _)
        cases hb2 : hostN N b with
        | true => exact ⟨_, _, _, _, _, _, by rw [if_pos rfl, Int.add_zero]⟩
        | false => exact ⟨_, _, _, _, _, _, by rw [if_neg (by decide)]⟩
      · rintro δ ⟨x, y, z, u, v, w, rfl⟩
        walk_at "vs"
        exact q
def c__law_entry : Ct := fun ws Q => ∃ (N : NetV) (fs : List (List Int)) (c : Int) (tight : Bool), ws = [.cl (netD N), .cl (.lst (fs.map rowD)), .cl (.int c), .cl (.bl tight)] ∧ (∀ r ∈ fs, PathOk N r) ∧ fs ≠ [] ∧ ∀ e, EntOk N e → Q (.cl (entD e))
theorem l__law_entry : ∀ ws P, c__law_entry ws P → ws.length = 4 := by rintro ws P ⟨N, fs, c, t, rfl, _⟩; rfl
/-- _law_entry: slots 0=_law_net_here 1=_law_paths_here 2=_law_cell_here 3=_law_tight 4=_law_numbers 5=_law_path 6=_law_period 7=_law_length 8=_law_stream 9=_law_offsets 10=_law_hop 11=_law_late 12=_law_spare 13=_law_deadline -/
def a__law_entry : AS :=
  aSeq (aSetC 4 (aCall c__law_draw (aCons (aV 2) (aCons (aC (.int 12)) (aCons (aBin dShl (aC (.int 1)) (aC (.int 20))) (aNil)))))) (aSeq (aSetC 5 (aBin dIx (aV 1) (aBin dMod (aBin dIx (aV 4) (aC (.int 0))) (aCB fLen1 (aCons (aV 1) (aNil)))))) (aSeq (aSetC 6 (aBin dIx (aLst (aCons (aC (.int 6)) (aCons (aC (.int 8)) (aCons (aC (.int 12)) (aCons (aC (.int 5)) (aCons (aC (.int 10)) (aCons (aC (.int 4)) (aNil)))))))) (aBin dMod (aBin dIx (aV 4) (aC (.int 1))) (aC (.int 6))))) (aSeq (aSetC 7 (aBin dAdd (aC (.int 1)) (aBin dMod (aBin dIx (aV 4) (aC (.int 2))) (aC (.int 3))))) (aSeq (aSetC 8 (aMake 1 c_Stream___init__ (aCons (aV 6) (aCons (aV 7) (aCons (aC (.int 300)) (aCons (aV 5) (aNil))))))) (aSeq (aSet 9 (aLst (aCons (aBin dMod (aBin dIx (aV 4) (aC (.int 3))) (aV 6)) (aNil)))) (aSeq (aFor (iR2 (aCons (aC (.int 1)) (aCons (aBin dSub (aCB fLen1 (aCons (aV 5) (aNil))) (aC (.int 1))) (aNil)))) (agN 10) (aSeq (aSetC 11 (aBin dMod (aBin dIx (aV 4) (aBin dAdd (aC (.int 4)) (aBin dMod (aV 10) (aC (.int 4))))) (aC (.int 4)))) (aCut (aIf (aAnd (aB (aBin (dEq) (aBin dMod (aBin dDiv (aBin dIx (aV 4) (aBin dAdd (aC (.int 4)) (aBin dMod (aV 10) (aC (.int 4))))) (aC (.int 4))) (aC (.int 9))) (aC (.int 0)))) (aNot (aB (aV 3)))) (aSetC 11 (aUn dNeg (aC (.int 1)))) (aNext)) (aMut "list" 9 mAppend (aCons (aCB fMax2 (aCons (aC (.int 0)) (aCons (aBin dAdd (aBin dAdd (aCall c__law_ready (aCons (aV 0) (aCons (aV 8) (aCons (aV 9) (aNil))))) (aBin dMul (aC (.int 2)) (aFld 0 3 (aV 0)))) (aV 11)) (aNil)))) (aNil)))))) (aSeq (aSetC 12 (aBin dMod (aBin dIx (aV 4) (aC (.int 9))) (aC (.int 6)))) (aCut (aIf (aAnd (aB (aBin (dEq) (aBin dMod (aBin dDiv (aBin dIx (aV 4) (aC (.int 9))) (aC (.int 6))) (aC (.int 9))) (aC (.int 0)))) (aNot (aB (aV 3)))) (aSetC 12 (aUn dNeg (aC (.int 1)))) (aNext)) (aSeq (aSetC 13 (aCB fMax2 (aCons (aC (.int 1)) (aCons (aBin dAdd (aBin dAdd (aCall c__law_ready (aCons (aV 0) (aCons (aV 8) (aCons (aV 9) (aNil))))) (aFld 0 3 (aV 0))) (aV 12)) (aNil))))) (aFrz 9 (aRet (aTup (aCons (aMake 1 c_Stream___init__ (aCons (aV 6) (aCons (aV 7) (aCons (aV 13) (aCons (aV 5) (aNil)))))) (aCons (aV 9) (aNil)))))))))))))))
theorem w__law_entry : ∀ ws P, c__law_entry ws P → a__law_entry { nx := fun _ => P (.cl .non), rt := fun w _ => P w } (startA 14 ws) := by
  rintro ws P ⟨N, fs, c, tight, rfl, hfs, hne, h⟩
  show a__law_entry _ [.im (.ins 0 [.lst (N.ks.map kD), .lst (N.ls.map lnD), .int N.pr, .int N.er]), .im (.lst (fs.map rowD)), .im (.int c), .im (.bl tight), .non, .non, .non, .non, .non, .non, .non, .non, .non, .non]
  have hfl : 0 < fs.length := List.length_pos_iff.mpr hne
  unfold a__law_entry
  walk_at "vs"
  refine ⟨by decide, c, 12, _, rfl, by decide, by decide, by decide, fun xs hl hx => ?_⟩
  obtain ⟨n0, n1, n2, n3, n4, n5, n6, n7, n8, n9, n10, n11, rfl⟩ := len_12 (show xs.length = 12 from hl)
  have eN : ∀ k : Int, 0 ≤ k → k < 12 → ∃ v, ixD [D.int n0, .int n1, .int n2, .int n3, .int n4, .int n5, .int n6, .int n7, .int n8, .int n9, .int n10, .int n11] k = some (.int v) := fun k q1 q2 => by
    obtain ⟨v, e, _⟩ := ixD_ints (xs := [n0, n1, n2, n3, n4, n5, n6, n7, n8, n9, n10, n11]) q1 (by simpa using q2)
    exact ⟨v, e⟩
  simp only [List.map_cons, List.map_nil]
  walk_at "vs"
  have m0 := Int.emod_nonneg n0 (show (fs.length : Int) ≠ 0 by omega)
  have m1 := Int.emod_lt_of_pos n0 (show 0 < (fs.length : Int) by omega)
  obtain ⟨p, hp⟩ : ∃ p, fs[(n0 % (fs.length : Int)).toNat]? = some p := ⟨_, List.getElem?_eq_getElem (by omega)⟩
  have hP := hfs p (List.mem_of_getElem? hp)
  have hp2 := hP.l2
  have hp6 := hP.l6
  refine ⟨by omega, ?_⟩
  rw [ixD_map rowD m0 hp, show rowD p = .lst (p.map .int) from rfl]
  walk_at "vs"
  refine ⟨by decide, by decide, ?_⟩
  obtain ⟨per, hper, hper1, hper2⟩ : ∃ per, ixD [D.int 6, .int 8, .int 12, .int 5, .int 10, .int 4] (n1 % 6) = some (.int per) ∧ 1 ≤ per ∧ per ≤ 12 := by
    have m0 := Int.emod_nonneg n1 (show (6 : Int) ≠ 0 by omega)
    have m1 := Int.emod_lt_of_pos n1 (show 0 < (6 : Int) by omega)
    generalize n1 % 6 = k at m0 m1
    have : k = 0 ∨ k = 1 ∨ k = 2 ∨ k = 3 ∨ k = 4 ∨ k = 5 := by omega
    rcases this with rfl | rfl | rfl | rfl | rfl | rfl
    · exact ⟨6, rfl, by decide, by decide⟩
    · exact ⟨8, rfl, by decide, by decide⟩
    · exact ⟨12, rfl, by decide, by decide⟩
    · exact ⟨5, rfl, by decide, by decide⟩
    · exact ⟨10, rfl, by decide, by decide⟩
    · exact ⟨4, rfl, by decide, by decide⟩
  rw [hper]
  walk_at "vs"
  refine ⟨by decide, per, 1 + n2 % 3, 300, _, _, rfl, .inl rfl, by omega, by decide, by omega, ?_⟩
  obtain ⟨NU, hNU⟩ : ∃ NU, NU = [D.int n0, .int n1, .int n2, .int n3, .int n4, .int n5, .int n6, .int n7, .int n8, .int n9, .int n10, .int n11] := ⟨_, rfl⟩
  rw [← hNU] at eN ⊢
  obtain ⟨len, hlen⟩ : ∃ len, len = 1 + n2 % 3 := ⟨_, rfl⟩
  rw [← hlen]
  have hlen1 : 1 ≤ len := by omega
  clear hlen hNU
  have rdy : ∀ (dl : Int) (os : List Int) (Q : W → Prop), 1 ≤ os.length → os.length + 1 ≤ p.length → (∀ v : Int, Q (.cl (.int v))) → c__law_ready [.cl (.ins 0 [.lst (N.ks.map kD), .lst (N.ls.map lnD), .int N.pr, .int N.er]), .cl (.ins 1 [.int per, .int len, .int dl, .lst (p.map .int)]), .ow (.fl (os.map .int))] Q := fun dl os Q h1 h2 k => by
    have ea : p[os.length - 1]? = some p[os.length - 1] := List.getElem?_eq_getElem (by omega)
    have eb : p[os.length - 1 + 1]? = some p[os.length - 1 + 1] := List.getElem?_eq_getElem (by omega)
    have eo : os[os.length - 1]? = some os[os.length - 1] := List.getElem?_eq_getElem (by omega)
    exact ⟨N, ⟨per, len, dl, p⟩, os, _, os.length - 1, _, _, _, rfl, .inr (.inr rfl), by omega, ea, eb, eo, hP.jn _ _ _ ea eb, hP.inn _ (List.mem_of_getElem? eb), k _⟩
  refine for_up (fun i δ => ∃ (os : List Int) (a b : AV), δ = [.im (.ins 0 [.lst (N.ks.map kD), .lst (N.ls.map lnD), .int N.pr, .int N.er]), .im (.lst (fs.map rowD)), .im (.int c), .im (.bl tight), .im (.lst NU), .im (.lst (p.map .int)), .im (.int per), .im (.int len), .im (.ins 1 [.int per, .int len, .int 300, .lst (p.map .int)]), .ow false (.fl (os.map .int)), a, b, .non, .non] ∧ os.length = i + 1) ⟨[n3 % per], _, _, rfl, rfl⟩ ?_ ?_
  · rintro i δ hi ⟨os, a, b, rfl, hos⟩
    have hi : i + 2 < p.length := by omega
    obtain ⟨v, hv⟩ := eN (4 + (1 + (i : Int)) % 4) (by omega) (by omega)
    walk_at "vs"
    refine ⟨by decide, ?_⟩
    rw [hv]
    walk_at "vs"
    refine ⟨by decide, ?_⟩
    refine cut_by (fun δ => ∃ (x : Int), δ = [.im (.ins 0 [.lst (N.ks.map kD), .lst (N.ls.map lnD), .int N.pr, .int N.er]), .im (.lst (fs.map rowD)), .im (.int c), .im (.bl tight), .im (.lst NU), .im (.lst (p.map .int)), .im (.int per), .im (.int len), .im (.ins 1 [.int per, .int len, .int 300, .lst (p.map .int)]), .ow false (.fl (os.map .int)), .im (.int (1 + (i : Int))), .im (.int x), .non, .non]) ?_ ?_
    · walk_at "vs"
      refine ⟨by decide, ?_⟩
      rw [hv]
      walk_at "vs"
      refine ⟨by decide, by decide, ?_⟩
      split
      · cases tight with
        | true =>
          simp only [Bool.not_true, Bool.false_eq_true, if_false, if_true]
          exact ⟨_, rfl⟩
        | false =>
          simp only [Bool.not_false, Bool.false_eq_true, if_false, if_true]
          exact ⟨_, rfl⟩
      · exact ⟨_, rfl⟩
    · rintro δ ⟨x, rfl⟩
      walk_at "vs"
      refine rdy 300 os _ (by omega) (by omega) fun v2 => ?_
      walk_at "vs"
      refine ⟨.inl (by decide), by omega, os ++ [_], _, _, rfl, by rw [List.length_append, List.length_singleton]; omega⟩
  rintro δ ⟨os, a, b, rfl, hos⟩
  have hos : os.length + 1 = p.length := by omega
  obtain ⟨v, hv⟩ := eN 9 (by decide) (by decide)
  walk_at "vs"
  rw [hv]
  walk_at "vs"
  refine ⟨by decide, ?_⟩
  refine cut_by (fun δ => ∃ (x : Int) (a b : AV), δ = [.im (.ins 0 [.lst (N.ks.map kD), .lst (N.ls.map lnD), .int N.pr, .int N.er]), .im (.lst (fs.map rowD)), .im (.int c), .im (.bl tight), .im (.lst NU), .im (.lst (p.map .int)), .im (.int per), .im (.int len), .im (.ins 1 [.int per, .int len, .int 300, .lst (p.map .int)]), .ow false (.fl (os.map .int)), a, b, .im (.int x), .non]) ?_ ?_
  · walk_at "vs"
    rw [hv]
    walk_at "vs"
    refine ⟨by decide, by decide, ?_⟩
    split
    · cases tight with
      | true =>
        simp only [Bool.not_true, Bool.false_eq_true, if_false, if_true]
        exact ⟨_, _, _, rfl⟩
      | false =>
        simp only [Bool.not_false, Bool.false_eq_true, if_false, if_true]
        exact ⟨_, _, _, rfl⟩
    · exact ⟨_, _, _, rfl⟩
  · rintro δ ⟨x, a, b, rfl⟩
    walk_at "vs"
    refine rdy 300 os _ (by omega) (by omega) fun v2 => ?_
    walk_at "vs"
    exact ⟨_, _, _, _, _, rfl, .inl rfl, by decide, h ⟨⟨per, len, _, p⟩, os⟩ ⟨hP, hos, hper1, hper2, hlen1⟩⟩
/-! ### places, ports, calls on entries -/
def arrE (N : NetV) (e : EntV) (h : Nat) : Int := arrN N (e.st.path.getD h 0) (e.st.path.getD (h + 1) 0) (e.os.getD h 0) e.st.len
def winT (e : EntV) (h : Nat) : Ln := (e.os.getD h 0, e.st.len, e.st.per)
def portE (e : EntV) (h : Nat) : Int × Int := (e.st.path.getD h 0, e.st.path.getD (h + 1) 0)
def dfl : EntV := ⟨⟨1, 1, 1, []⟩, []⟩
theorem getD_at {xs : List Int} {k : Nat} (h : k < xs.length) : xs[k]? = some (xs.getD k 0) := by
  rw [List.getD_eq_getElem?_getD, List.getElem?_eq_getElem h]; rfl
theorem EntOk.at {N : NetV} {e : EntV} (h : EntOk N e) {t : Nat} (ht : t < e.os.length) : e.st.path[t]? = some (e.st.path.getD t 0) ∧ e.st.path[t + 1]? = some (e.st.path.getD (t + 1) 0) ∧ e.os[t]? = some (e.os.getD t 0) ∧
    joinN N (e.st.path.getD t 0) (e.st.path.getD (t + 1) 0) ≠ none ∧ (0 ≤ e.st.path.getD (t + 1) 0 ∧ e.st.path.getD (t + 1) 0 < N.ks.length) ∧ (0 ≤ e.st.path.getD t 0 ∧ e.st.path.getD t 0 < N.ks.length) := by
  have hl := h.lo
  have e1 := getD_at (xs := e.st.path) (k := t) (by omega)
  have e2 := getD_at (xs := e.st.path) (k := t + 1) (by omega)
  exact ⟨e1, e2, getD_at ht, h.p.jn _ _ _ e1 e2, h.p.inn _ (List.mem_of_getElem? e2), h.p.inn _ (List.mem_of_getElem? e1)⟩
theorem arr_call {N : NetV} {e : EntV} (h : EntOk N e) {t : Nat} (ht : t < e.os.length) {Q : W → Prop} (q : Q (.cl (.int (arrE N e t)))) : c_arrival_of [.cl (netD N), .cl (entD e), .cl (.int t)] Q := by
  obtain ⟨e1, e2, e3, e4, e5, _⟩ := h.at ht
  exact ⟨N, e, t, _, _, _, rfl, e1, e2, e3, e4, e5, q⟩
theorem rdy_call {N : NetV} {e : EntV} (h : EntOk N e) {t : Nat} (ht : t < e.os.length) {os : List Int} (ho : os = e.os.take (t + 1)) {Q : W → Prop} (q : Q (.cl (.int (arrE N e t)))) : c__law_ready [.cl (netD N), .cl (.ins 1 [.int e.st.per, .int e.st.len, .int e.st.dl, .lst (e.st.path.map .int)]), .cl (.lst (os.map .int))] Q := by
  obtain ⟨e1, e2, e3, e4, e5, _⟩ := h.at ht
  have hl : os.length = t + 1 := by rw [ho, List.length_take]; omega
  exact ⟨N, e.st, os, _, t, _, _, _, rfl, .inl rfl, hl, e1, e2, by rw [ho, List.getElem?_take_of_lt (by omega)]; exact e3, e4, e5, q⟩
theorem cut_take (ns : List Int) (k : Nat) : cutD (ns.map D.int) none (some (k : Int)) = (ns.take k).map D.int := by
  rw [cutD_cutL]
  congr 1
  unfold cutL
  rw [HT.sIx_nat]
  show (ns.drop 0).take (min k ns.length - 0) = ns.take k
  rw [List.drop_zero, Nat.sub_zero, List.take_eq_take_iff]
  omega
theorem win_call {e : EntV} {h : Nat} (hh : h < e.os.length) {Q : W → Prop} (q : Q (.cl (lnD (winT e h)))) : c_window_of [.cl (entD e), .cl (.int h)] Q := ⟨e, h, _, rfl, getD_at hh, q⟩
theorem portsL_mem {p : List Int} {q : Int × Int} : q ∈ portsL p ↔ ∃ o, o < p.length - 1 ∧ q = (p.getD o 0, p.getD (o + 1) 0) := by
  constructor
  · intro h
    obtain ⟨k, hk⟩ := List.mem_iff_getElem?.mp h
    have hk2 : k < (portsL p).length := by
      apply Classical.byContradiction
      intro z
      rw [List.getElem?_eq_none_iff.mpr (by omega)] at hk
      cases hk
    rw [portsL_len] at hk2
    rw [portsL_at (getD_at (by omega)) (getD_at (by omega))] at hk
    cases hk
    exact ⟨k, hk2, rfl⟩
  · rintro ⟨o, ho, rfl⟩
    exact List.mem_of_getElem? (portsL_at (getD_at (by omega)) (getD_at (by omega)))
theorem nodup_getD {p : List Int} (nd : p.Nodup) {i j : Nat} (hi : i < p.length) (hj : j < p.length) (e : p.getD i 0 = p.getD j 0) : i = j := by
  have h1 := getD_at hi
  have h2 := getD_at hj
  rw [← e] at h2
  exact (List.getElem?_inj hi nd).mp (h1.trans h2.symm)
theorem inD_p (q : Int × Int) (l : List (Int × Int)) : inD (pD q) (l.map pD) = decide (q ∈ l) := by
  unfold inD
  rw [Bool.eq_iff_iff, List.any_eq_true, decide_eq_true_eq]
  constructor
  · rintro ⟨d, hd, e⟩
    obtain ⟨y, hy, rfl⟩ := List.mem_map.mp hd
    have e2 := eqD_p2 y.1 y.2 q.1 q.2
    have e3 : eqD (pD y) (pD q) = decide (y.1 = q.1 ∧ y.2 = q.2) := e2
    rw [e3] at e
    have := of_decide_eq_true e
    rw [show q = y from Prod.ext this.1.symm this.2.symm]
    exact hy
  · intro h
    exact ⟨pD q, List.mem_map.mpr ⟨q, h, rfl⟩, (eqD_p2 q.1 q.2 q.1 q.2).trans (by simp)⟩
theorem okD_ps (l : List (Int × Int)) : okD (.lst (l.map pD)) = true := okD_map (f := pD) (n := 1) (fun q => dep_tup fun x hx => by
  simp only [List.mem_cons, List.not_mem_nil, or_false] at hx
  rcases hx with rfl | rfl <;> exact dep_int 0 _) (by decide)
theorem ixOf_p {q : Int × Int} {p : List Int} (h : q ∈ portsL p) : ∃ o, o < p.length - 1 ∧ q = (p.getD o 0, p.getD (o + 1) 0) ∧ ixOf (pD q) ((portsL p).map pD) = o := by
  have h0 : inD (pD q) ((portsL p).map pD) = true := by rw [inD_p]; exact decide_eq_true h
  obtain ⟨z, h1, h2, _⟩ := ixOf_at (pD q) h0
  rw [List.getElem?_map] at h1
  cases e : (portsL p)[ixOf (pD q) ((portsL p).map pD)]? with
  | none => rw [e] at h1; cases h1
  | some y =>
    rw [e] at h1
    cases h1
    have e3 : eqD (pD y) (pD q) = decide (y.1 = q.1 ∧ y.2 = q.2) := eqD_p2 y.1 y.2 q.1 q.2
    rw [e3] at h2
    have h2 := of_decide_eq_true h2
    have hk2 : ixOf (pD q) ((portsL p).map pD) < (portsL p).length := by
      apply Classical.byContradiction
      intro z
      rw [List.getElem?_eq_none_iff.mpr (by omega)] at e
      cases e
    rw [portsL_len] at hk2
    refine ⟨_, hk2, ?_, rfl⟩
    rw [portsL_at (getD_at (by omega)) (getD_at (by omega))] at e
    cases e
    exact Prod.ext h2.1.symm h2.2.symm
theorem getE {pl : List EntV} {k : Nat} (hk : k < pl.length) : pl[k]? = some (pl.getD k dfl) := by rw [List.getD_eq_getElem?_getD, List.getElem?_eq_getElem hk]; rfl
theorem rows_ne {m : Nat} {N : NetV} {fs : List (List Int)} (h : ∀ r, r ∈ fs ↔ FoundT N m r) (hm : m ≤ 4) : ∀ r ∈ fs, PathOk N r := fun r hr => FoundT.ok hm ((h r).mp hr)
theorem eqD_self {d : D} (h : okD d = true) : eqD d d = true := eqD_lst_refl _ (SeqAt.canLay_of_shaped h)
theorem lvD_ent (e : EntV) : lvD g_Stream 1 2 (entD e) := .inr ⟨_, .inr rfl, fun d hd => by
  simp only [List.mem_cons, List.not_mem_nil, or_false] at hd
  rcases hd with rfl | rfl
  · exact .inl ⟨rfl, e.st, rfl⟩
  · refine .inr ⟨_, .inl rfl, fun x hx => ?_⟩
    obtain ⟨n, _, rfl⟩ := List.mem_map.mp hx
    exact True.intro⟩
theorem cut_takeF {α : Type} (f : α → D) (xs : List α) (k : Nat) : cutD (xs.map f) none (some (k : Int)) = (xs.take k).map f := by
  rw [cutD_cutL]
  congr 1
  unfold cutL
  rw [HT.sIx_nat]
  show (xs.drop 0).take (min k xs.length - 0) = xs.take k
  rw [List.drop_zero, Nat.sub_zero, List.take_eq_take_iff]
  omega
theorem cut_dropF {α : Type} (f : α → D) (xs : List α) (k : Nat) : cutD (xs.map f) (some (k : Int)) none = (xs.drop k).map f := by
  rw [cutD_cutL]
  congr 1
  unfold cutL
  rw [HT.sIx_nat]
  show (xs.drop (min k xs.length)).take (xs.length - min k xs.length) = xs.drop k
  rw [List.take_of_length_le (by rw [List.length_drop]; omega)]
  by_cases h : k ≤ xs.length
  · rw [Nat.min_eq_left h]
  · rw [Nat.min_eq_right (by omega), List.drop_length, List.drop_of_length_le (by omega)]
theorem ixN_nn {n : Nat} {i : Int} (h0 : 0 ≤ i) (h1 : i < n) : ixN n i = some i.toNat := by
  unfold ixN
  rw [if_pos h0, if_pos (by omega)]
end Vl
local macro_rules | `(tactic| walk_at "vs") => `(tactic| simp only [Vl.aSeq, Vl.aFor_eq, Vl.aIf, Vl.aB, Vl.aBin, Vl.aUn, Vl.aV, Vl.slotW, Vl.gt_z, Vl.gt_s, Vl.aCB, Vl.aCall, Vl.aCons, Vl.aNil, Vl.argW, Vl.dLt_eq, Vl.dLe_eq, Vl.dGt_eq, Vl.dGe_eq, Vl.dI0, Vl.dI, Vl.dAdd, Vl.dSub_eq, Vl.dMul, Vl.dDiv_eq, Vl.dMod_eq, Vl.dPow_eq, Vl.dShl_eq, Vl.dNeg, Vl.dNot, Vl.dIsN, Vl.dNotN, Vl.dEq, Vl.dNe, Vl.dIn, Vl.dIx, Vl.fLen_lst, Vl.fLen_tup, Vl.fLen_ow, Vl.fLen_bw, Vl.fLen_scr, Vl.fLen_str, Vl.fInt_int, Vl.fInt_bl, Vl.fAbs_int, Vl.fMax_int, Vl.fMin_int, Vl.fGcd_int, Vl.fLcm_int, Vl.fList_lst, Vl.fList_tup, Vl.fList_ow, Vl.fList_bw, Vl.fList_scr, Vl.seqC, Vl.lstC, Vl.itemsC, Vl.clW, Vl.W.toD, Vl.M.toD, Vl.clDs, Option.map_some, Option.map_none,
  Vl.aRet, Vl.aRetV, Vl.aRetN, Vl.aNext, Vl.aBreak, Vl.aCont, Vl.aC, Vl.aSet, Vl.aSetC, Vl.slotA, Vl.aDrop, Vl.aAsgG, Vl.agN, Vl.agT, Vl.agCons, Vl.agNil, Vl.iLst, Vl.iTup, Vl.iR1, Vl.iR2, Vl.aTup, Vl.aLst, Vl.aAnd, Vl.aOr, Vl.aNot, Vl.aAndV, Vl.aOrV, Vl.aIfE, Vl.aSl, Vl.aoS, Vl.aoN, Vl.aChain, Vl.aAugAdd, Vl.aAugSub, Vl.aMut, Vl.aMutS, Vl.mAppend, Vl.mPop, Vl.mPopAt, Vl.mReverse, Vl.tyM, Vl.aFrz, Vl.frz, Vl.aSetIx, Vl.aLc, Vl.wipeA, Vl.aYes,
  List.set_cons_zero, List.set_cons_succ, List.length_map, List.length_cons, List.length_nil, decide_eq_true_eq, Bool.not_true, Bool.not_false, if_true, if_false, Bool.false_eq_true, Vl.okD_int, Vl.okD_bl, Vl.okD_non, Vl.eqD_int, Vl.eqD_bl, Vl.eqD_non, true_and, and_true, Vl.snoc_int, Vl.aIsi, Vl.isi_bl_bool, Vl.isi_bl_int, Vl.isi_int_int, Vl.isi_int_bool, Vl.isi_non_int, Vl.isi_non_bool, Vl.isi_lst_list, Vl.isi_tup_list, Vl.isi_tup_tuple, Vl.isi_non_tuple, Vl.isi_non_list, Vl.isi_str_str, Vl.isi_lst_bool, Vl.isi_str_bool, Vl.isi_tup_bool, Vl.ixD_0, Vl.ixD_1, Vl.ixD_2, Vl.ixD_3, Vl.ixD_4, Vl.ixD_5, Vl.ixD_6, Vl.ixD_7, Vl.ixD_8, Vl.ixD_9, Vl.ixD_10, Vl.ixD_11, Vl.aFld, Vl.aMeth, Vl.aMake, Vl.aMakeK, Vl.mInsert, Vl.aIndex, Vl.fMax1_eq, Vl.fSorted_eq, List.getElem?_cons_zero, List.getElem?_cons_succ, List.cons_append, List.nil_append, Vl.aPar, Vl.aIsO, Vl.dNeS, Vl.aDNewT, Vl.dEqO, Vl.aDPut, Vl.aDGet, Vl.dctC])
namespace Vl
open PySem PySem.Spec PyProof.Rows L2

/-! ### the windows at a port -/
/-- those of one entry, of its first n hops -/
def winsE (e : EntV) (n : Nat) (q : Int × Int) : List Ln := (List.range n).filterMap fun h => if portE e h = q then some (winT e h) else none
def winsAt (pl : List EntV) (q : Int × Int) : List Ln := pl.flatMap fun e => winsE e e.os.length q
theorem winsE_succ (e : EntV) (n : Nat) (q : Int × Int) : winsE e (n + 1) q = winsE e n q ++ (if portE e n = q then [winT e n] else []) := by
  unfold winsE
  rw [List.range_succ, List.filterMap_append]
  congr 1
  by_cases h : portE e n = q <;> simp [h]
theorem winsE_none {N : NetV} {e : EntV} (he : EntOk N e) {q : Int × Int} (h : q ∉ portsL e.st.path) : ∀ n, n ≤ e.os.length → winsE e n q = []
  | 0, _ => rfl
  | n + 1, hn => by
    have hl := he.lo
    rw [winsE_succ, winsE_none he h n (by omega), if_neg (fun z => h (portsL_mem.mpr ⟨n, by omega, z.symm⟩))]
    rfl
theorem winsE_one {N : NetV} {e : EntV} (he : EntOk N e) {o : Nat} (ho : o < e.os.length) : ∀ n, n ≤ e.os.length → winsE e n (portE e o) = if o < n then [winT e o] else []
  | 0, _ => rfl
  | n + 1, hn => by
    have hl := he.lo
    rw [winsE_succ, winsE_one he ho n (by omega)]
    by_cases e1 : portE e n = portE e o
    · have : n = o := nodup_getD he.p.nd (by omega) (by omega) (congrArg Prod.fst e1)
      subst this
      rw [if_pos e1, if_neg (by omega), if_pos (by omega)]
      rfl
    · rw [if_neg e1, List.append_nil]
      have : n ≠ o := fun z => e1 (by rw [z])
      by_cases q : o < n
      · rw [if_pos q, if_pos (by omega)]
      · rw [if_neg q, if_neg (by omega)]
theorem winsAt_snoc (pl : List EntV) (e : EntV) (q : Int × Int) : winsAt (pl ++ [e]) q = winsAt pl q ++ winsE e e.os.length q := by
  unfold winsAt
  rw [List.flatMap_append]
  simp
def c_windows_at : Ct := fun ws Q => ∃ (N : NetV) (pl : List EntV) (q : Int × Int), ws = [.cl (.lst (pl.map entD)), .cl (pD q)] ∧ (∀ e ∈ pl, EntOk N e) ∧ pl.length ≤ 1000 ∧ Q (.fr (.fl ((winsAt pl q).map lnD)))
theorem l_windows_at : ∀ ws P, c_windows_at ws P → ws.length = 2 := by rintro ws P ⟨N, pl, q, rfl, _⟩; rfl
/-- windows_at: slots 0=plan 1=port 2=found 3=entry 4=ports -/
def a_windows_at : AS :=
  aSeq (aSet 2 (aLst (aNil))) (aSeq (aFor (iLst (aV 0)) (agN 3) (aSeq (aSetC 4 (aCall c_ports_of (aCons (aFld 1 3 (aBin dIx (aV 3) (aC (.int 0)))) (aNil)))) (aIf (aB (aBin (dIn false) (aV 1) (aV 4))) (aMut "list" 2 mAppend (aCons (aCall c_window_of (aCons (aV 3) (aCons (aIndex (aV 4) (aCons (aV 1) (aNil))) (aNil)))) (aNil))) (aNext)))) (aRetV 2))
theorem w_windows_at : ∀ ws P, c_windows_at ws P → a_windows_at { nx := fun _ => P (.cl .non), rt := fun w _ => P w } (startA 5 ws) := by
  rintro ws P ⟨N, pl, q, rfl, hE, hl, h⟩
  show a_windows_at _ [.im (.lst (pl.map entD)), .im (pD q), .non, .non, .non]
  unfold a_windows_at
  walk_at "vs"
  refine ⟨by decide, for_map entD pl (fun r δ => ∃ (dn : List EntV) (x y : AV), δ = [.im (.lst (pl.map entD)), .im (pD q), .ow false (.fl ((winsAt dn q).map lnD)), x, y] ∧ pl = dn ++ r ∧ (winsAt dn q).length ≤ dn.length) ⟨[], _, _, rfl, rfl, by simp [winsAt]⟩ ?_ ?_⟩
  · rintro e r δ _ ⟨dn, x, y, rfl, hp, hw⟩
    have he : EntOk N e := hE e (by rw [hp]; simp)
    have hlo := he.lo
    have h6 := he.p.l6
    have h2 := he.p.l2
    have hdn : dn.length < pl.length := by rw [hp]; simp
    have okq : okD (pD q) = true := okD_p2 _ _
    rw [show entD e = .tup [.ins 1 [.int e.st.per, .int e.st.len, .int e.st.dl, .lst (e.st.path.map .int)], .lst (e.os.map .int)] from rfl]
    walk_at "vs"
    refine ⟨e.st.path, rfl, by omega, ?_⟩
    walk_at "vs"
    simp only [okq, okD_ps, inD_p, true_and]
    by_cases hin : q ∈ portsL e.st.path
    · rw [decide_eq_true hin]
      simp only [if_true]
      obtain ⟨o, ho, eo, eix⟩ := ixOf_p hin
      rw [eix]
      have eo : q = portE e o := eo
      refine ⟨trivial, win_call (h := o) (by omega) ?_⟩
      walk_at "vs"
      have e2 : winsAt (dn ++ [e]) q = winsAt dn q ++ [winT e o] := by
        rw [winsAt_snoc, eo, winsE_one he (by omega) _ (Nat.le_refl _), if_pos (by omega)]
      refine ⟨by omega, dn ++ [e], .im (.tup [.ins 1 [.int e.st.per, .int e.st.len, .int e.st.dl, .lst (e.st.path.map .int)], .lst (e.os.map .int)]), .im (.lst ((portsL e.st.path).map pD)), ?_, by rw [hp]; simp, by rw [e2, List.length_append, List.length_append]; simp; omega⟩
      rw [e2, List.map_append]
      rfl
    · rw [decide_eq_false hin]
      simp only [Bool.false_eq_true, if_false]
      have e2 : winsAt (dn ++ [e]) q = winsAt dn q := by
        rw [winsAt_snoc, winsE_none he hin _ (Nat.le_refl _), List.append_nil]
      exact ⟨dn ++ [e], _, _, by rw [e2], by rw [hp]; simp, by rw [e2, List.length_append]; omega⟩
  · rintro δ ⟨dn, x, y, rfl, hp, _⟩
    rw [List.append_nil] at hp
    subst hp
    walk_at "vs"
    exact h
theorem eq_call {s s' : StrV} {Q : W → Prop} (b : Bool) (hb : decide (s.per = s'.per ∧ s.len = s'.len ∧ s.dl = s'.dl ∧ s.path = s'.path) = b) (q : Q (.cl (.bl b))) :
    c_Stream___eq__ [.cl (.ins 1 [.int s.per, .int s.len, .int s.dl, .lst (s.path.map .int)]), .cl (.ins 1 [.int s'.per, .int s'.len, .int s'.dl, .lst (s'.path.map .int)])] (fun w => ∃ b, w = .cl (.bl b) ∧ Q w) :=
  ⟨s, _, rfl, .inl ⟨s', rfl, b, by rw [hb], by rw [hb]; exact q⟩⟩
def c__law_stream_holds : Ct := fun ws Q => ∃ (s : StrV) (n : Int), ws = [.cl (.ins 1 [.int s.per, .int s.len, .int s.dl, .lst (s.path.map .int)]), .cl (.lst [.int n])] ∧ (1 ≤ s.path.length ∧ s.path.length ≤ 100) ∧ (∀ x ∈ s.path, x < 98) ∧ Q (.cl (.bl true))
theorem l__law_stream_holds : ∀ ws P, c__law_stream_holds ws P → ws.length = 2 := by rintro ws P ⟨s, n, rfl, _⟩; rfl
/-- _law_stream_holds: slots 0=_law_stream 1=_law_numbers 2=_law_path 3=_law_other 4=_law_parts -/
def a__law_stream_holds : AS :=
  aSeq (aSet 2 (aCB fList (aCons (aFld 1 3 (aV 0)) (aNil)))) (aSeq (aSetC 3 (aMake 1 c_Stream___init__ (aCons (aFld 1 0 (aV 0)) (aCons (aFld 1 1 (aV 0)) (aCons (aFld 1 2 (aV 0)) (aCons (aV 2) (aNil))))))) (aSeq (aMut "list" 2 mAppend (aCons (aC (.int 99)) (aNil))) (aSeq (aIf (aOr (aB (aBin (dNe) (aFld 1 3 (aV 3)) (aFld 1 3 (aV 0)))) (aOr (aNot (aB (aBin (dEqO 1 c_Stream___eq__) (aV 3) (aV 0)))) (aOr (aB (aBin (dEqO 1 c_Stream___eq__) (aV 3) (aFld 1 3 (aV 0)))) (aB (aBin (dEqO 1 c_Stream___eq__) (aV 3) (aC (.int 3))))))) (aRet (aC (.bl false))) (aNext)) (aSeq (aSet 4 (aLst (aCons (aFld 1 0 (aV 0)) (aCons (aFld 1 1 (aV 0)) (aCons (aFld 1 2 (aV 0)) (aNil)))))) (aSeq (aSetIx 4 (aBin dMod (aBin dIx (aV 1) (aC (.int 0))) (aC (.int 3))) (aBin dAdd (aBin dIx (aV 4) (aBin dMod (aBin dIx (aV 1) (aC (.int 0))) (aC (.int 3)))) (aC (.int 1)))) (aSeq (aIf (aB (aBin (dEqO 1 c_Stream___eq__) (aMake 1 c_Stream___init__ (aCons (aBin dIx (aV 4) (aC (.int 0))) (aCons (aBin dIx (aV 4) (aC (.int 1))) (aCons (aBin dIx (aV 4) (aC (.int 2))) (aCons (aCB fList (aCons (aFld 1 3 (aV 0)) (aNil))) (aNil)))))) (aV 0))) (aRet (aC (.bl false))) (aNext)) (aRet (aUn dNot (aBin (dEqO 1 c_Stream___eq__) (aMake 1 c_Stream___init__ (aCons (aFld 1 0 (aV 0)) (aCons (aFld 1 1 (aV 0)) (aCons (aFld 1 2 (aV 0)) (aCons (aBin dAdd (aSl (aFld 1 3 (aV 0)) (aoS (aC (.int 1))) (aoN)) (aLst (aCons (aC (.int 98)) (aNil)))) (aNil)))))) (aV 0))))))))))
theorem w__law_stream_holds : ∀ ws P, c__law_stream_holds ws P → a__law_stream_holds { nx := fun _ => P (.cl .non), rt := fun w _ => P w } (startA 5 ws) := by
  rintro ws P ⟨s, n, rfl, hl, hx, h⟩
  show a__law_stream_holds _ [.im (.ins 1 [.int s.per, .int s.len, .int s.dl, .lst (s.path.map .int)]), .im (.lst [.int n]), .non, .non, .non]
  unfold a__law_stream_holds
  walk_at "vs"
  refine ⟨_, _, _, _, _, rfl, .inr (.inr rfl), ?_⟩
  walk_at "vs"
  refine ⟨by omega, okD_il _, okD_il _, ?_⟩
  rw [eqD_self (okD_il _)]
  simp only [Bool.not_true, Bool.false_eq_true, if_false]
  have eS : decide (s.per = s.per ∧ s.len = s.len ∧ s.dl = s.dl ∧ s.path = s.path) = true := by simp
  refine ⟨s, _, rfl, .inl ⟨s, rfl, true, by rw [eS], ?_⟩⟩
  rw [eS]
  simp only [Bool.not_true, Bool.false_eq_true, if_false]
  refine ⟨s, _, rfl, .inr (.inl ⟨_, rfl, false, rfl, ?_⟩)⟩
  simp only [Bool.false_eq_true, if_false]
  refine ⟨s, _, rfl, .inr (.inr ⟨_, rfl, false, rfl, ?_⟩)⟩
  simp only [Bool.false_eq_true, if_false]
  refine ⟨by decide, by decide, ?_⟩
  have m0 := Int.emod_nonneg n (show (3 : Int) ≠ 0 by omega)
  have m1 := Int.emod_lt_of_pos n (show 0 < (3 : Int) by omega)
  generalize n % 3 = k at m0 m1
  have : k = 0 ∨ k = 1 ∨ k = 2 := by omega
  have ix3 : ∀ k : Int, 0 ≤ k → k < 3 → ixN (0 + 1 + 1 + 1) k = some k.toNat := fun k q1 q2 => ixN_nn q1 (by omega)
  have eP : (s.path.drop 1).map D.int ++ [D.int 98] = (s.path.drop 1 ++ [98]).map D.int := by rw [List.map_append]; rfl
  have ne : ¬ (s.path.drop 1 ++ [98] = s.path) := fun z => by
    have h98 : (98 : Int) ∈ s.path := by rw [← z]; simp
    have := hx _ h98
    omega
  rcases this with rfl | rfl | rfl
  case' inl =>
    walk_at "vs"
    rw [ix3 _ (by decide) (by decide)]
    refine ⟨by decide, ?_⟩
    simp only [show Int.toNat 0 = 0 from rfl]
    walk_at "vs"
    refine ⟨_, _, _, _, _, rfl, .inl rfl, eq_call (s := ⟨s.per + 1, s.len, s.dl, s.path⟩) (s' := s) false (decide_eq_false fun z => by have : s.per + 1 = s.per := z.1; omega) ?_⟩
  case' inr.inl =>
    walk_at "vs"
    rw [ix3 _ (by decide) (by decide)]
    refine ⟨by decide, ?_⟩
    simp only [show Int.toNat 1 = 1 from rfl]
    walk_at "vs"
    refine ⟨_, _, _, _, _, rfl, .inl rfl, eq_call (s := ⟨s.per, s.len + 1, s.dl, s.path⟩) (s' := s) false (decide_eq_false fun z => by have : s.len + 1 = s.len := z.2.1; omega) ?_⟩
  case' inr.inr =>
    walk_at "vs"
    rw [ix3 _ (by decide) (by decide)]
    refine ⟨by decide, ?_⟩
    simp only [show Int.toNat 2 = 2 from rfl]
    walk_at "vs"
    refine ⟨_, _, _, _, _, rfl, .inl rfl, eq_call (s := ⟨s.per, s.len, s.dl + 1, s.path⟩) (s' := s) false (decide_eq_false fun z => by have : s.dl + 1 = s.dl := z.2.2.1; omega) ?_⟩
  all_goals
    simp only [Bool.false_eq_true, if_false]
    rw [show (some (1 : Int)) = some ((1 : Nat) : Int) from rfl, cut_dropF, eP]
    refine ⟨by decide, by simp; omega, _, _, _, _, _, rfl, .inl rfl, eq_call (s := ⟨s.per, s.len, s.dl, s.path.drop 1 ++ [98]⟩) (s' := s) false (decide_eq_false fun z => ne z.2.2.2) ?_⟩
    exact h
/-! ### the dict of the windows -/
def keyQ (q : Int × Int) : List Key := [.inl q.1, .inl q.2]
theorem keyQ_inj {p q : Int × Int} (h : keyQ p = keyQ q) : p = q := by
  unfold keyQ at h
  simp only [List.cons.injEq, Sum.inl.injEq, and_true] at h
  exact Prod.ext h.1 h.2
theorem valD_put {κ : Type} [DecidableEq κ] (k j : κ) (v : D) : ∀ kvs : List (κ × D), valD (putD kvs k v) j = if j = k then some v else valD kvs j := by
  intro kvs
  unfold putD
  split
  · rename_i h
    induction kvs with
    | nil => simp at h
    | cons p r ih =>
      rw [List.map_cons]
      by_cases e : p.1 = k
      · rw [if_pos e]
        by_cases ej : j = k
        · rw [if_pos ej]
          simp [valD, List.find?_cons, e, ej]
        · rw [if_neg ej]
          have h1 : ¬ p.1 = j := fun z => ej (z.symm.trans e)
          have h2 : ¬ k = j := fun z => ej z.symm
          have hr : valD (r.map fun kv => if kv.1 = k then (kv.1, v) else kv) j = valD r j := by
            clear ih h
            induction r with
            | nil => rfl
            | cons q r ih2 =>
              rw [List.map_cons]
              by_cases eq : q.1 = k
              · rw [if_pos eq]
                have h3 : ¬ q.1 = j := fun z => ej (z.symm.trans eq)
                simpa [valD, List.find?_cons, h3] using ih2
              · rw [if_neg eq]
                by_cases e3 : q.1 = j
                · simp [valD, List.find?_cons, e3]
                · simpa [valD, List.find?_cons, e3] using ih2
          simpa [valD, List.find?_cons, h1, e, h2] using hr
      · rw [if_neg e]
        have h' : (r.any fun kv => decide (kv.1 = k)) = true := by simpa [e] using h
        by_cases e3 : p.1 = j
        · have : ¬ j = k := fun z => e (e3.trans z)
          rw [if_neg this]
          simp [valD, List.find?_cons, e3]
        · have := ih h'
          simpa [valD, List.find?_cons, e3] using this
  · rename_i h
    induction kvs with
    | nil =>
      by_cases ej : j = k
      · simp [valD, ej]
      · have : ¬ k = j := fun z => ej z.symm
        simp [valD, ej, this]
    | cons p r ih =>
      have hp : ¬ p.1 = k := fun z => h (by simp [z])
      have hr : ¬ (r.any fun kv => decide (kv.1 = k)) = true := fun z => h (by rw [List.any_cons, z, Bool.or_true])
      by_cases e3 : p.1 = j
      · have : ¬ j = k := fun z => hp (e3.trans z)
        rw [if_neg this]
        simp [valD, List.find?_cons, e3]
      · have := ih hr
        simpa [valD, List.find?_cons, e3] using this
theorem putD_len {κ : Type} [DecidableEq κ] (kvs : List (κ × D)) (k : κ) (v : D) : (putD kvs k v).length ≤ kvs.length + 1 := by
  unfold putD
  split
  · simp
  · simp
def wlD (ws : List Ln) : Option D := if ws = [] then none else some (.lst (ws.map lnD))
structure DueOk (kvs : List (List Key × D)) (f : Int × Int → List Ln) (n : Nat) : Prop where
  v : ∀ q, valD kvs (keyQ q) = wlD (f q)
  l : kvs.length ≤ n
  n : ∀ q, (f q).length ≤ n
theorem DueOk.mono {kvs : List (List Key × D)} {f : Int × Int → List Ln} {n m : Nat} (h : DueOk kvs f n) (hm : n ≤ m) : DueOk kvs f m := ⟨h.v, Nat.le_trans h.l hm, fun q => Nat.le_trans (h.n q) hm⟩
theorem DueOk.put {kvs : List (List Key × D)} {f : Int × Int → List Ln} {n : Nat} (h : DueOk kvs f n) (p : Int × Int) (w : Ln) : DueOk (putD kvs (keyQ p) (.lst ((f p ++ [w]).map lnD))) (fun q => f q ++ if p = q then [w] else []) (n + 1) := by
  refine ⟨fun q => ?_, Nat.le_trans (putD_len _ _ _) (by have := h.l; omega), fun q => by
    have := h.n q
    rw [List.length_append]
    split
    · rw [List.length_singleton]; omega
    · show _ + 0 ≤ _; omega⟩
  rw [valD_put]
  by_cases e : p = q
  · subst e
    rw [if_pos rfl, if_pos rfl]
    unfold wlD
    rw [if_neg (by simp)]
  · rw [if_neg (fun z => e (keyQ_inj z).symm), if_neg e, List.append_nil]
    exact h.v q
theorem ite_no {c a b : Prop} [Decidable c] (h : ¬ c) (hb : b) : if c then a else b := by rw [if_neg h]; exact hb
theorem ite_yes {c a b : Prop} [Decidable c] (h : c) (hb : a) : if c then a else b := by rw [if_pos h]; exact hb
def c_law : Ct := fun ws Q => ∃ ns : List Int, ws = [.cl (.scr ns)] ∧ ns.length ≤ 63 ∧ Q (.cl (.bl true))
theorem l_law : ∀ ws P, c_law ws P → ws.length = 1 := by rintro ws P ⟨ns, rfl, _⟩; rfl
theorem okD_ln (w : Ln) : okD (lnD w) = true := (show dep 1 (lnD w) from dep_tup fun q hq => by
  simp only [List.mem_cons, List.not_mem_nil, or_false] at hq
  rcases hq with rfl | rfl | rfl <;> exact dep_int 0 _) |> fun h => dep_ok h (by decide)
theorem okD_lns (l : List Ln) : okD (.lst (l.map lnD)) = true := okD_map (f := lnD) (n := 1) (fun q => dep_tup fun x hx => by
  simp only [List.mem_cons, List.not_mem_nil, or_false] at hx
  rcases hx with rfl | rfl | rfl <;> exact dep_int 0 _) (by decide)
/-- law: slots 0=_law_script 1=_law_net_here 2=_law_paths_here 3=_law_plan 4=_law_k 5=_law_due 6=_law_entry_here 7=_law_stream 8=_law_offsets 9=_law_hop 10=_law_window 11=_law_port 12=_law_a 13=_law_b -/
def a_law : AS :=
  aSeq (aSetC 1 (aCall c__law_net (aCons (aCall c__law_cell (aCons (aV 0) (aCons (aC (.int 0)) (aNil)))) (aCons (aCall c__law_cell (aCons (aV 0) (aCons (aC (.int 1)) (aNil)))) (aNil))))) (aSeq (aSetC 2 (aCall c__law_paths (aCons (aV 1) (aCons (aC (.int 5)) (aNil))))) (aSeq (aIf (aB (aBin (dEq) (aCB fLen1 (aCons (aV 2) (aNil))) (aC (.int 0)))) (aRet (aC (.bl true))) (aNext)) (aSeq (aSet 3 (aLst (aNil))) (aSeq (aFor (iR1 (aCons (aBin dAdd (aC (.int 1)) (aBin dMod (aCB fInt (aCons (aCall c__law_cell (aCons (aV 0) (aCons (aC (.int 2)) (aNil)))) (aNil))) (aC (.int 4)))) (aNil))) (agN 4) (aMut "list" 3 mAppend (aCons (aCall c__law_entry (aCons (aV 1) (aCons (aV 2) (aCons (aCall c__law_cell (aCons (aV 0) (aCons (aBin dAdd (aC (.int 3)) (aV 4)) (aNil)))) (aCons (aC (.bl false)) (aNil)))))) (aNil)))) (aSeq (aSet 5 (aDNewT)) (aSeq (aFrz 3 (aFor (iLst (aV 3)) (agN 6) (aSeq (aAsgG (aV 6) (agT 2 (agCons (agN 7) (agCons (agN 8) (agNil))))) (aSeq (aIf (aNot (aB (aCall c__law_stream_holds (aCons (aV 7) (aCons (aCall c__law_draw (aCons (aCall c__law_cell (aCons (aV 0) (aCons (aC (.int 8)) (aNil)))) (aCons (aC (.int 1)) (aCons (aBin dShl (aC (.int 1)) (aC (.int 20))) (aNil))))) (aNil)))))) (aRet (aC (.bl false))) (aNext)) (aFor (iR1 (aCons (aCB fLen1 (aCons (aV 8) (aNil))) (aNil))) (agN 9) (aSeq (aSetC 10 (aTup (aCons (aBin dIx (aV 8) (aV 9)) (aCons (aFld 1 1 (aV 7)) (aCons (aFld 1 0 (aV 7)) (aNil)))))) (aSeq (aIf (aB (aBin (dNe) (aCall c_window_of (aCons (aV 6) (aCons (aV 9) (aNil)))) (aV 10))) (aRet (aC (.bl false))) (aNext)) (aSeq (aIf (aB (aBin (dNe) (aCall c_arrival_of (aCons (aV 1) (aCons (aV 6) (aCons (aV 9) (aNil))))) (aCall c__law_ready (aCons (aV 1) (aCons (aV 7) (aCons (aSl (aV 8) (aoN) (aoS (aBin dAdd (aV 9) (aC (.int 1))))) (aNil))))))) (aRet (aC (.bl false))) (aNext)) (aSeq (aSetC 11 (aTup (aCons (aBin dIx (aFld 1 3 (aV 7)) (aV 9)) (aCons (aBin dIx (aFld 1 3 (aV 7)) (aBin dAdd (aV 9) (aC (.int 1)))) (aNil))))) (aDPut 5 (aV 11) (aBin dAdd (aDGet (aV 5) (aV 11) (aLst (aNil))) (aLst (aCons (aV 10) (aNil)))))))))))))) (aSeq (aFor (iR1 (aCons (aCB fLen1 (aCons (aFld 0 0 (aV 1)) (aNil))) (aNil))) (agN 12) (aFor (iR1 (aCons (aCB fLen1 (aCons (aFld 0 0 (aV 1)) (aNil))) (aNil))) (agN 13) (aIf (aAnd (aB (aBin (dNe) (aV 12) (aV 13))) (aB (aBin (dNe) (aCall c_windows_at (aCons (aV 3) (aCons (aTup (aCons (aV 12) (aCons (aV 13) (aNil)))) (aNil)))) (aDGet (aV 5) (aTup (aCons (aV 12) (aCons (aV 13) (aNil)))) (aLst (aNil)))))) (aRet (aC (.bl false))) (aNext)))) (aRet (aC (.bl true))))))))))
theorem w_law : ∀ ws P, c_law ws P → a_law { nx := fun _ => P (.cl .non), rt := fun w _ => P w } (startA 14 ws) := by
  rintro ws P ⟨ns, rfl, hns, h⟩
  show a_law _ [.im (.scr ns), .non, .non, .non, .non, .non, .non, .non, .non, .non, .non, .non, .non, .non]
  unfold a_law
  walk_at "vs"
  refine ⟨ns, 0, rfl, by decide, ?_⟩
  walk_at "vs"
  refine ⟨ns, 1, rfl, by decide, ?_⟩
  walk_at "vs"
  refine ⟨_, _, rfl, fun N hN => ?_⟩
  walk_at "vs"
  refine ⟨N, 4, rfl, hN, by decide, fun fs hfs hfl => ?_⟩
  have hPs := rows_ne hfs (by decide)
  have n7 := hN.n7
  walk_at "vs"
  by_cases hne : fs = []
  · subst hne
    split
    · exact h
    · rename_i z; exact absurd rfl z
  rw [if_neg (by have := List.length_pos_iff.mpr hne; omega)]
  refine ⟨by decide, ns, 2, rfl, by decide, ?_⟩
  walk_at "vs"
  refine ⟨by decide, by omega, ?_⟩
  refine for_up (fun k δ => ∃ (pl : List EntV) (x : AV), δ = [.im (.scr ns), .im (netD N), .im (.lst (fs.map rowD)), .ow false (.fl (pl.map entD)), x, .non, .non, .non, .non, .non, .non, .non, .non, .non] ∧ pl.length = k ∧ ∀ e ∈ pl, EntOk N e) ⟨[], _, rfl, rfl, fun e he => nomatch he⟩ ?_ ?_
  · rintro k δ hk ⟨pl, x, rfl, hpl, hE⟩
    walk_at "vs"
    refine ⟨ns, 3 + (0 + (k : Int)), rfl, by omega, ?_⟩
    walk_at "vs"
    refine ⟨N, fs, _, _, rfl, hPs, hne, fun e he => ?_⟩
    walk_at "vs"
    refine ⟨by omega, pl ++ [e], .im (.int (0 + (k : Int))), ?_, by rw [List.length_append, List.length_singleton, hpl], fun e' he' => ?_⟩
    · rw [List.map_append]; rfl
    · rcases List.mem_append.mp he' with q | q
      · exact hE e' q
      · rw [List.mem_singleton.mp q]; exact he
  rintro δ ⟨pl, x, rfl, hpl, hE⟩
  have hpl4 : pl.length ≤ 4 := by omega
  clear hpl
  walk_at "vs"
  refine for_map entD pl (fun r δ => ∃ (dn : List EntV) (kvs : List (List Key × D)) (a b c d e f : AV), δ = [.im (.scr ns), .im (netD N), .im (.lst (fs.map rowD)), .im (.lst (pl.map entD)), x, .ow false (dT kvs), a, b, c, d, e, f, .non, .non] ∧ pl = dn ++ r ∧ DueOk kvs (winsAt dn) (5 * dn.length)) ⟨[], [], _, _, _, _, _, _, rfl, rfl, fun q => rfl, by decide, fun q => by simp [winsAt]⟩ ?_ ?_
  · rintro e r δ _ ⟨dn, kvs, a, b, c, d, e', f, rfl, hp, hD⟩
    have he : EntOk N e := hE e (by rw [hp]; simp)
    have hlo := he.lo
    have h6 := he.p.l6
    have h2 := he.p.l2
    have hdn : dn.length < pl.length := by rw [hp]; simp
    rw [show entD e = .tup [.ins 1 [.int e.st.per, .int e.st.len, .int e.st.dl, .lst (e.st.path.map .int)], .lst (e.os.map .int)] from rfl]
    walk_at "vs"
    refine ⟨ns, 8, rfl, by decide, ⟨by decide, by decide, by decide⟩, _, 1, _, rfl, by decide, by decide, by decide, fun xs hl hx => ?_⟩
    obtain ⟨n0, rfl⟩ := len_1 (show xs.length = 1 from hl)
    walk_at "vs"
    refine ⟨e.st, n0, rfl, by omega, fun z hz => by have := he.p.inn z hz; omega, ?_⟩
    walk_at "vs"
    refine ⟨by omega, ?_⟩
    refine for_up (fun k δ => ∃ (kvs : List (List Key × D)) (d e' f : AV), δ = [.im (.scr ns), .im (netD N), .im (.lst (fs.map rowD)), .im (.lst (pl.map entD)), x, .ow false (dT kvs), .im (entD e), .im (.ins 1 [.int e.st.per, .int e.st.len, .int e.st.dl, .lst (e.st.path.map .int)]), .im (.lst (e.os.map .int)), d, e', f, .non, .non] ∧ DueOk kvs (fun q => winsAt dn q ++ winsE e k q) (5 * dn.length + k)) ⟨kvs, _, _, _, rfl, by
      have e1 : (fun q => winsAt dn q ++ winsE e 0 q) = winsAt dn := by funext q; show winsAt dn q ++ [] = _; rw [List.append_nil]
      rw [e1]; exact hD⟩ ?_ ?_
    · rintro k δ hk ⟨kvs, d, e', f, rfl, hD⟩
      have hk : k < e.os.length := by omega
      obtain ⟨g1, g2, g3, g4, g5, g6⟩ := he.at hk
      walk_at "vs"
      rw [ixD_map D.int (by omega) (show e.os[(0 + (k : Int)).toNat]? = some (e.os.getD k 0) by rw [show (0 + (k : Int)).toNat = k by omega]; exact g3)]
      walk_at "vs"
      have eW : (D.tup [.int (e.os.getD k 0), .int e.st.len, .int e.st.per]) = lnD (winT e k) := rfl
      have e0 : (0 + (k : Int)) = (k : Int) := by omega
      rw [e0, eW]
      refine ⟨by decide, win_call hk ?_⟩
      simp only [W.toD, okD_ln, eqD_self (okD_ln _), Bool.not_true, Bool.false_eq_true, if_false, true_and]
      refine arr_call he hk ?_
      rw [show ((k : Int) + 1) = ((k + 1 : Nat) : Int) by omega, cut_take]
      refine rdy_call he hk rfl ?_
      walk_at "vs"
      rw [ixD_map D.int (by omega) (show e.st.path[(k : Int).toNat]? = some (e.st.path.getD k 0) from g1)]
      walk_at "vs"
      rw [ixD_map D.int (by omega) (show e.st.path[((k + 1 : Nat) : Int).toNat]? = some (e.st.path.getD (k + 1) 0) from g2)]
      simp only [dT]
      have eK : (D.tup [.int (e.st.path.getD k 0), .int (e.st.path.getD (k + 1) 0)]) = encT (keyQ (portE e k)) := rfl
      have hl := hD.l
      have hv := hD.v (portE e k)
      have hput := hD.put (portE e k) (winT e k)
      have eF : (fun q => (winsAt dn q ++ winsE e k q) ++ if portE e k = q then [winT e k] else []) = fun q => winsAt dn q ++ winsE e (k + 1) q := by
        funext q
        rw [winsE_succ, List.append_assoc]
      rw [eF] at hput
      have hlt : kvs.length < 1000000 := by omega
      refine ⟨by decide, by decide, kvs, keyQ (portE e k), rfl, eK, ?_⟩
      by_cases hz : winsAt dn (portE e k) ++ winsE e k (portE e k) = []
      · rw [hz] at hput
        unfold wlD at hv
        rw [if_pos hz] at hv
        exact .inr ⟨hv, by decide, by decide, kvs, keyQ (portE e k), rfl, eK, hlt, _, _, _, _, rfl, hput⟩
      · unfold wlD at hv
        rw [if_neg hz] at hv
        rw [List.map_append] at hput
        have hlen : (winsAt dn (portE e k) ++ winsE e k (portE e k)).length ≤ 100000 := Nat.le_trans (hD.n _) (by omega)
        refine .inl ⟨_, hv, by decide, ?_⟩
        exact ⟨by rw [List.length_map]; show _ + 1 ≤ _; omega, kvs, keyQ (portE e k), rfl, eK, hlt, _, _, _, _, rfl, hput⟩
    · rintro δ ⟨kvs, d, e', f, rfl, hD⟩
      have e2 : (fun q => winsAt dn q ++ winsE e ((e.os.length : Int)).toNat q) = winsAt (dn ++ [e]) := by
        funext q
        rw [winsAt_snoc]
        rfl
      rw [e2] at hD
      exact ⟨dn ++ [e], kvs, _, _, _, _, _, _, rfl, by rw [hp]; simp, hD.mono (by rw [List.length_append, List.length_singleton]; omega)⟩
  rintro δ ⟨dn, kvs, a, b, c, d, e', f, rfl, hp, hD⟩
  rw [List.append_nil] at hp
  subst hp
  have okq : ∀ q, okD (pD q) = true := fun q => okD_p2 _ _
  rw [show netD N = .ins 0 [.lst (N.ks.map kD), .lst (N.ls.map lnD), .int N.pr, .int N.er] from rfl]
  walk_at "vs"
  refine ⟨by omega, for_up (fun i δ => ∃ y z : AV, δ = [.im (.scr ns), .im (.ins 0 [.lst (N.ks.map kD), .lst (N.ls.map lnD), .int N.pr, .int N.er]), .im (.lst (fs.map rowD)), .im (.lst (pl.map entD)), x, .ow false (dT kvs), a, b, c, d, e', f, y, z]) ⟨_, _, rfl⟩ ?_ ?_⟩
  · rintro i δ hi ⟨y, z, rfl⟩
    walk_at "vs"
    refine ⟨by omega, for_up (fun j δ => ∃ z : AV, δ = [.im (.scr ns), .im (.ins 0 [.lst (N.ks.map kD), .lst (N.ls.map lnD), .int N.pr, .int N.er]), .im (.lst (fs.map rowD)), .im (.lst (pl.map entD)), x, .ow false (dT kvs), a, b, c, d, e', f, .im (.int (0 + (i : Int))), z]) ⟨_, rfl⟩ ?_ ?_⟩
    · rintro j δ hj ⟨z, rfl⟩
      walk_at "vs"
      have fin : ∃ z : AV, ([.im (.scr ns), .im (.ins 0 [.lst (N.ks.map kD), .lst (N.ls.map lnD), .int N.pr, .int N.er]), .im (.lst (fs.map rowD)), .im (.lst (pl.map entD)), x, .ow false (dT kvs), a, b, c, d, e', f, .im (.int (0 + (i : Int))), .im (.int (0 + (j : Int)))] : List AV) = [.im (.scr ns), .im (.ins 0 [.lst (N.ks.map kD), .lst (N.ls.map lnD), .int N.pr, .int N.er]), .im (.lst (fs.map rowD)), .im (.lst (pl.map entD)), x, .ow false (dT kvs), a, b, c, d, e', f, .im (.int (0 + (i : Int))), z] := ⟨_, rfl⟩
      split
      · refine ⟨by decide, N, pl, (0 + (i : Int), 0 + (j : Int)), rfl, hE, by omega, ?_⟩
        have hv := hD.v (0 + (i : Int), 0 + (j : Int))
        simp only [dT]
        refine ⟨by decide, by decide, kvs, keyQ (0 + (i : Int), 0 + (j : Int)), rfl, rfl, ?_⟩
        unfold wlD at hv
        by_cases hz : winsAt pl (0 + (i : Int), 0 + (j : Int)) = []
        · rw [if_pos hz] at hv
          rw [hz]
          refine .inr ⟨hv, rfl, rfl, ?_⟩
          exact ite_no (by decide) fin
        · rw [if_neg hz] at hv
          refine .inl ⟨_, hv, okD_lns _, okD_lns _, ?_⟩
          exact ite_no (by rw [eqD_self (okD_lns _)]; decide) fin
      · exact fin
    · rintro δ ⟨z, rfl⟩
      exact ⟨_, _, rfl⟩
  · rintro δ ⟨y, z, rfl⟩
    walk_at "vs"
    exact h
end Vl
namespace Vl
open PySem PySem.Spec PyProof.Rows L2
/-! ### the text -/
def topS (i : Nat) : Stmt := PySem.Challenge.pw_metronet_k06_entries_of_plans.main.body.getD i (.Pass ⟨0, 0, 0, 0⟩)
abbrev s_window_of : Stmt := topS 7
abbrev N_window_of : List Str := ["entry", "hop", "stream", "offsets"]
theorem sc_window_of : FnScope N_window_of ["entry", "hop"] (defScope s_window_of) := ⟨rfl, rfl, rfl, by decide +kernel, rfl, by decide +kernel, by decide +kernel⟩
abbrev s_Net_delay : Stmt := inClass (topS 3) 1
abbrev N_Net_delay : List Str := ["self", "a", "b", "first", "second", "ticks"]
theorem sc_Net_delay : FnScope N_Net_delay ["self", "a", "b"] (defScope s_Net_delay) := ⟨rfl, rfl, rfl, by decide +kernel, rfl, by decide +kernel, by decide +kernel⟩
abbrev s_arrival_of : Stmt := topS 8
abbrev N_arrival_of : List Str := ["net", "entry", "hop", "stream", "offsets", "a", "b", "ticks"]
theorem sc_arrival_of : FnScope N_arrival_of ["net", "entry", "hop"] (defScope s_arrival_of) := ⟨rfl, rfl, rfl, by decide +kernel, rfl, by decide +kernel, by decide +kernel⟩
abbrev s_ports_of : Stmt := topS 4
abbrev N_ports_of : List Str := ["path", "k"]
theorem sc_ports_of : FnScope N_ports_of ["path"] (defScope s_ports_of) := ⟨rfl, rfl, rfl, by decide +kernel, rfl, by decide +kernel, by decide +kernel⟩
abbrev s_windows_at : Stmt := topS 9
abbrev N_windows_at : List Str := ["plan", "port", "found", "entry", "ports"]
theorem sc_windows_at : FnScope N_windows_at ["plan", "port"] (defScope s_windows_at) := ⟨rfl, rfl, rfl, by decide +kernel, rfl, by decide +kernel, by decide +kernel⟩
abbrev s__law_draw : Stmt := topS 11
abbrev N__law_draw : List Str := ["_law_cell_here", "_law_many", "_law_bound", "_law_numbers", "_law_k", "_law_seed", "_law_mixed"]
theorem sc__law_draw : FnScope N__law_draw ["_law_cell_here", "_law_many", "_law_bound"] (defScope s__law_draw) := ⟨rfl, rfl, rfl, by decide +kernel, rfl, by decide +kernel, by decide +kernel⟩
abbrev s__law_cell : Stmt := topS 12
abbrev N__law_cell : List Str := ["_law_script", "_law_k"]
theorem sc__law_cell : FnScope N__law_cell ["_law_script", "_law_k"] (defScope s__law_cell) := ⟨rfl, rfl, rfl, by decide +kernel, rfl, by decide +kernel, by decide +kernel⟩
abbrev s_Net___init__ : Stmt := inClass (topS 3) 0
abbrev N_Net___init__ : List Str := ["self", "kinds", "lines", "processing", "error"]
theorem sc_Net___init__ : FnScope N_Net___init__ ["self", "kinds", "lines", "processing", "error"] (defScope s_Net___init__) := ⟨rfl, rfl, rfl, by decide +kernel, rfl, by decide +kernel, by decide +kernel⟩
abbrev s__law_net : Stmt := topS 13
abbrev N__law_net : List Str := ["_law_cell_here", "_law_more", "_law_numbers", "_law_hosts", "_law_switches", "_law_kinds", "_law_k", "_law_pairs", "_law_a", "_law_b", "_law_draws", "_law_lines", "_law_near"]
theorem sc__law_net : FnScope N__law_net ["_law_cell_here", "_law_more"] (defScope s__law_net) := ⟨rfl, rfl, rfl, by decide +kernel, rfl, by decide +kernel, by decide +kernel⟩
abbrev s__law_joined : Stmt := topS 14
abbrev N__law_joined : List Str := ["_law_net_here", "_law_a", "_law_b", "_law_first", "_law_second", "_law_ticks"]
theorem sc__law_joined : FnScope N__law_joined ["_law_net_here", "_law_a", "_law_b"] (defScope s__law_joined) := ⟨rfl, rfl, rfl, by decide +kernel, rfl, by decide +kernel, by decide +kernel⟩
abbrev s__law_paths : Stmt := topS 15
abbrev N__law_paths : List Str := ["_law_net_here", "_law_most", "_law_found", "_law_rows", "_law_a", "_law_turn", "_law_longer", "_law_row", "_law_b"]
theorem sc__law_paths : FnScope N__law_paths ["_law_net_here", "_law_most"] (defScope s__law_paths) := ⟨rfl, rfl, rfl, by decide +kernel, rfl, by decide +kernel, by decide +kernel⟩
abbrev s__law_ready : Stmt := topS 16
abbrev N__law_ready : List Str := ["_law_net_here", "_law_stream", "_law_offsets", "_law_hop", "_law_a", "_law_b", "_law_ticks"]
theorem sc__law_ready : FnScope N__law_ready ["_law_net_here", "_law_stream", "_law_offsets"] (defScope s__law_ready) := ⟨rfl, rfl, rfl, by decide +kernel, rfl, by decide +kernel, by decide +kernel⟩
abbrev s_Stream___init__ : Stmt := inClass (topS 6) 0
abbrev N_Stream___init__ : List Str := ["self", "period", "length", "deadline", "path"]
theorem sc_Stream___init__ : FnScope N_Stream___init__ ["self", "period", "length", "deadline", "path"] (defScope s_Stream___init__) := ⟨rfl, rfl, rfl, by decide +kernel, rfl, by decide +kernel, by decide +kernel⟩
abbrev s__law_entry : Stmt := topS 17
abbrev N__law_entry : List Str := ["_law_net_here", "_law_paths_here", "_law_cell_here", "_law_tight", "_law_numbers", "_law_path", "_law_period", "_law_length", "_law_stream", "_law_offsets", "_law_hop", "_law_late", "_law_spare", "_law_deadline"]
theorem sc__law_entry : FnScope N__law_entry ["_law_net_here", "_law_paths_here", "_law_cell_here", "_law_tight"] (defScope s__law_entry) := ⟨rfl, rfl, rfl, by decide +kernel, rfl, by decide +kernel, by decide +kernel⟩
abbrev s_Stream___eq__ : Stmt := inClass (topS 6) 1
abbrev N_Stream___eq__ : List Str := ["self", "other"]
theorem sc_Stream___eq__ : FnScope N_Stream___eq__ ["self", "other"] (defScope s_Stream___eq__) := ⟨rfl, rfl, rfl, by decide +kernel, rfl, by decide +kernel, by decide +kernel⟩
abbrev s__law_stream_holds : Stmt := topS 18
abbrev N__law_stream_holds : List Str := ["_law_stream", "_law_numbers", "_law_path", "_law_other", "_law_parts"]
theorem sc__law_stream_holds : FnScope N__law_stream_holds ["_law_stream", "_law_numbers"] (defScope s__law_stream_holds) := ⟨rfl, rfl, rfl, by decide +kernel, rfl, by decide +kernel, by decide +kernel⟩
abbrev s_law : Stmt := topS 19
abbrev N_law : List Str := ["_law_script", "_law_net_here", "_law_paths_here", "_law_plan", "_law_k", "_law_due", "_law_entry_here", "_law_stream", "_law_offsets", "_law_hop", "_law_window", "_law_port", "_law_a", "_law_b"]
theorem sc_law : FnScope N_law ["_law_script"] (defScope s_law) := ⟨rfl, rfl, rfl, by decide +kernel, rfl, by decide +kernel, by decide +kernel⟩
abbrev fs_Net : List Str := ["kinds", "lines", "processing", "error"]
theorem nd_Net : fs_Net.Nodup := by decide
theorem no_Net_delay : ("delay" : Str) ∉ fs_Net := by decide
abbrev fs_Stream : List Str := ["period", "length", "deadline", "path"]
theorem nd_Stream : fs_Stream.Nodup := by decide
theorem no_Stream___eq__ : ("__eq__" : Str) ∉ fs_Stream := by decide
structure Tx (K : PySem.W.Frag) (mg : Str → Option Value) where
  C_Net : Addr
  cl_Net : Cls K C_Net
  n_Net_kinds : NoAttr K C_Net "kinds"
  n_Net_lines : NoAttr K C_Net "lines"
  n_Net_processing : NoAttr K C_Net "processing"
  n_Net_error : NoAttr K C_Net "error"
  C_Stream : Addr
  cl_Stream : Cls K C_Stream
  n_Stream_period : NoAttr K C_Stream "period"
  n_Stream_length : NoAttr K C_Stream "length"
  n_Stream_deadline : NoAttr K C_Stream "deadline"
  n_Stream_path : NoAttr K C_Stream "path"
  is_Stream : IsOk K C_Stream
  eo_Stream : EqOk K C_Stream
  f_window_of : Addr
  d_window_of : FuncData
  F_window_of : Fun K "window_of" "window_of" s_window_of f_window_of d_window_of
  b_window_of : Binds K d_window_of ["entry", "hop"] []
  m_window_of : mg "window_of" = some (.ref f_window_of)
  f_Net_delay : Addr
  d_Net_delay : FuncData
  F_Net_delay : Fun K "delay" "Net.delay" s_Net_delay f_Net_delay d_Net_delay
  b_Net_delay : Binds K d_Net_delay ["self", "a", "b"] []
  mt_Net_delay : Meth K C_Net "delay" f_Net_delay
  f_arrival_of : Addr
  d_arrival_of : FuncData
  F_arrival_of : Fun K "arrival_of" "arrival_of" s_arrival_of f_arrival_of d_arrival_of
  b_arrival_of : Binds K d_arrival_of ["net", "entry", "hop"] []
  m_arrival_of : mg "arrival_of" = some (.ref f_arrival_of)
  f_ports_of : Addr
  d_ports_of : FuncData
  F_ports_of : Fun K "ports_of" "ports_of" s_ports_of f_ports_of d_ports_of
  b_ports_of : Binds K d_ports_of ["path"] []
  m_ports_of : mg "ports_of" = some (.ref f_ports_of)
  f_windows_at : Addr
  d_windows_at : FuncData
  F_windows_at : Fun K "windows_at" "windows_at" s_windows_at f_windows_at d_windows_at
  b_windows_at : Binds K d_windows_at ["plan", "port"] []
  m_windows_at : mg "windows_at" = some (.ref f_windows_at)
  f__law_draw : Addr
  d__law_draw : FuncData
  F__law_draw : Fun K "_law_draw" "_law_draw" s__law_draw f__law_draw d__law_draw
  b__law_draw : Binds K d__law_draw ["_law_cell_here", "_law_many", "_law_bound"] []
  m__law_draw : mg "_law_draw" = some (.ref f__law_draw)
  f__law_cell : Addr
  d__law_cell : FuncData
  F__law_cell : Fun K "_law_cell" "_law_cell" s__law_cell f__law_cell d__law_cell
  b__law_cell : Binds K d__law_cell ["_law_script", "_law_k"] []
  m__law_cell : mg "_law_cell" = some (.ref f__law_cell)
  f_Net___init__ : Addr
  d_Net___init__ : FuncData
  F_Net___init__ : Fun K "__init__" "Net.__init__" s_Net___init__ f_Net___init__ d_Net___init__
  kb_Net___init__ : KBn K d_Net___init__ ["self", "kinds", "lines", "processing", "error"] 3 ["processing", "error"] (fun us ws => us ++ ws) (fun vs zs => vs ++ zs)
  mk_Net : Mk K C_Net f_Net___init__
  mC_Net : mg "Net" = some (.ref C_Net)
  f__law_net : Addr
  d__law_net : FuncData
  F__law_net : Fun K "_law_net" "_law_net" s__law_net f__law_net d__law_net
  b__law_net : Binds K d__law_net ["_law_cell_here", "_law_more"] []
  m__law_net : mg "_law_net" = some (.ref f__law_net)
  f__law_joined : Addr
  d__law_joined : FuncData
  F__law_joined : Fun K "_law_joined" "_law_joined" s__law_joined f__law_joined d__law_joined
  b__law_joined : Binds K d__law_joined ["_law_net_here", "_law_a", "_law_b"] []
  m__law_joined : mg "_law_joined" = some (.ref f__law_joined)
  f__law_paths : Addr
  d__law_paths : FuncData
  F__law_paths : Fun K "_law_paths" "_law_paths" s__law_paths f__law_paths d__law_paths
  b__law_paths : Binds K d__law_paths ["_law_net_here", "_law_most"] []
  m__law_paths : mg "_law_paths" = some (.ref f__law_paths)
  f__law_ready : Addr
  d__law_ready : FuncData
  F__law_ready : Fun K "_law_ready" "_law_ready" s__law_ready f__law_ready d__law_ready
  b__law_ready : Binds K d__law_ready ["_law_net_here", "_law_stream", "_law_offsets"] []
  m__law_ready : mg "_law_ready" = some (.ref f__law_ready)
  f_Stream___init__ : Addr
  d_Stream___init__ : FuncData
  F_Stream___init__ : Fun K "__init__" "Stream.__init__" s_Stream___init__ f_Stream___init__ d_Stream___init__
  b_Stream___init__ : Binds K d_Stream___init__ ["self", "period", "length", "deadline", "path"] []
  mk_Stream : Mk K C_Stream f_Stream___init__
  mC_Stream : mg "Stream" = some (.ref C_Stream)
  f__law_entry : Addr
  d__law_entry : FuncData
  F__law_entry : Fun K "_law_entry" "_law_entry" s__law_entry f__law_entry d__law_entry
  b__law_entry : Binds K d__law_entry ["_law_net_here", "_law_paths_here", "_law_cell_here", "_law_tight"] []
  m__law_entry : mg "_law_entry" = some (.ref f__law_entry)
  f_Stream___eq__ : Addr
  d_Stream___eq__ : FuncData
  F_Stream___eq__ : Fun K "__eq__" "Stream.__eq__" s_Stream___eq__ f_Stream___eq__ d_Stream___eq__
  b_Stream___eq__ : Binds K d_Stream___eq__ ["self", "other"] []
  mt_Stream___eq__ : Meth K C_Stream "__eq__" f_Stream___eq__
  f__law_stream_holds : Addr
  d__law_stream_holds : FuncData
  F__law_stream_holds : Fun K "_law_stream_holds" "_law_stream_holds" s__law_stream_holds f__law_stream_holds d__law_stream_holds
  b__law_stream_holds : Binds K d__law_stream_holds ["_law_stream", "_law_numbers"] []
  m__law_stream_holds : mg "_law_stream_holds" = some (.ref f__law_stream_holds)
  f_law : Addr
  d_law : FuncData
  F_law : Fun K "law" "law" s_law f_law d_law
  b_law : Binds K d_law ["_law_script"] []
  m_law : mg "law" = some (.ref f_law)
  n_int : mg "int" = none
  n_isinstance : mg "isinstance" = none
  n_len : mg "len" = none
  n_list : mg "list" = none
  n_max : mg "max" = none
  n_range : mg "range" = none
def tb {K : PySem.W.Frag} {mg : Str → Option Value} (t : Tx K mg) : Tb := ⟨K, fun n => match n with | 0 => t.C_Net | 1 => t.C_Stream | _ => 0, fun n => match n with | 0 => fs_Net | 1 => fs_Stream | _ => []⟩
section
variable {P : Program} {w : World} {K : PySem.W.Frag} {mg : Str → Option Value} {base : Heap}
theorem ok_window_of (t : Tx K mg) : FnOk P w K mg base CX0 1 t.f_window_of t.d_window_of ["entry", "hop"] (spC (tb t) c_window_of) :=
  fn_ok (T := tb t) (a := a_window_of) t.F_window_of sc_window_of l_window_of (by decide) (fun cdv A outer s H E hr =>
    ss_cons (s_asgG (e_v 0) (g_tup rfl (g_cons (g_name (i := 2) sc_window_of.nd rfl (by first | exact .inl rfl | exact .inr rfl)) (g_cons (g_name (i := 3) sc_window_of.nd rfl (by first | exact .inl rfl | exact .inr rfl)) (g_nil))))) (ss_one (s_ret (e_tup (a_cons (e_ix rfl (e_v 3) (e_v 1) (fun _ _ => rfl)) (a_cons (e_fld rfl t.cl_Stream t.n_Stream_length nd_Stream rfl (e_v 2)) (a_cons (e_fld rfl t.cl_Stream t.n_Stream_period nd_Stream rfl (e_v 2)) (a_nil)))))))) w_window_of
theorem ok_Net_delay (t : Tx K mg) : FnOk P w K mg base CX0 1 t.f_Net_delay t.d_Net_delay ["self", "a", "b"] (spC (tb t) c_Net_delay) :=
  fn_ok (T := tb t) (a := a_Net_delay) t.F_Net_delay sc_Net_delay l_Net_delay (by decide) (fun cdv A outer s H E hr =>
    ss_cons (s_for PassesOwn.never rfl (i_lst rfl (e_fld rfl t.cl_Net t.n_Net_lines nd_Net rfl (e_v 0))) (g_tup rfl (g_cons (g_name (i := 3) sc_Net_delay.nd rfl (by first | exact .inl rfl | exact .inr rfl)) (g_cons (g_name (i := 4) sc_Net_delay.nd rfl (by first | exact .inl rfl | exact .inr rfl)) (g_cons (g_name (i := 5) sc_Net_delay.nd rfl (by first | exact .inl rfl | exact .inr rfl)) (g_nil))))) (ss_one (s_if (PW.pt (w_or (t_cmp (op_eqD hr.u64) b_eq (e_tup (a_cons (e_v 3) (a_cons (e_v 4) (a_nil)))) (e_tup (a_cons (e_v 1) (a_cons (e_v 2) (a_nil)))) (nomark _)) (w_or1 (t_cmp (op_eqD hr.u64) b_eq (e_tup (a_cons (e_v 3) (a_cons (e_v 4) (a_nil)))) (e_tup (a_cons (e_v 2) (a_cons (e_v 1) (a_nil)))) (nomark _))))) (ss_one (s_retV 5)) (ss_nil)))) (ss_one (s_ret (e_non)))) w_Net_delay
theorem ok_arrival_of (t : Tx K mg) : FnOk P w K mg base CX0 2 t.f_arrival_of t.d_arrival_of ["net", "entry", "hop"] (spC (tb t) c_arrival_of) :=
  fn_ok (T := tb t) (a := a_arrival_of) t.F_arrival_of sc_arrival_of l_arrival_of (by decide) (fun cdv A outer s H E hr =>
    ss_cons (s_asgG (e_v 1) (g_tup rfl (g_cons (g_name (i := 3) sc_arrival_of.nd rfl (by first | exact .inl rfl | exact .inr rfl)) (g_cons (g_name (i := 4) sc_arrival_of.nd rfl (by first | exact .inl rfl | exact .inr rfl)) (g_nil))))) (ss_cons (s_setC (i := 5) sc_arrival_of.nd rfl (by first | exact .inl rfl | exact .inr rfl) (e_ix rfl (e_fld rfl t.cl_Stream t.n_Stream_path nd_Stream rfl (e_v 3)) (e_v 2) (fun _ _ => rfl))) (ss_cons (s_setC (i := 6) sc_arrival_of.nd rfl (by first | exact .inl rfl | exact .inr rfl) (e_ix rfl (e_fld rfl t.cl_Stream t.n_Stream_path nd_Stream rfl (e_v 3)) (e_bin op_addAll b_add (e_v 2) (e_int)) (fun _ _ => rfl))) (ss_cons (s_setC (i := 7) sc_arrival_of.nd rfl (by first | exact .inl rfl | exact .inr rfl) (e_bin op_addAll b_add (e_bin op_addAll b_add (e_ix rfl (e_v 4) (e_v 2) (fun _ _ => rfl)) (e_fld rfl t.cl_Stream t.n_Stream_length nd_Stream rfl (e_v 3))) (e_meth t.cl_Net t.mt_Net_delay (ok_Net_delay t) (hr.mono (by decide)) t.b_Net_delay no_Net_delay (e_v 0) (a_cons (e_v 5) (a_cons (e_v 6) (a_nil)))))) (ss_cut (s_if (t_cmp (op_eqD hr.u64) b_eq (e_ix rfl (e_fld rfl t.cl_Net t.n_Net_kinds nd_Net rfl (e_v 0)) (e_v 6) (fun _ _ => rfl)) (e_str) (nomark _)) (ss_one (s_augAdd (i := 7) sc_arrival_of.nd rfl (by first | exact .inl rfl | exact .inr rfl) (e_fld rfl t.cl_Net t.n_Net_processing nd_Net rfl (e_v 0)))) (ss_nil)) (ss_one (s_retV 7))))))) w_arrival_of
theorem ok_ports_of (t : Tx K mg) : FnOk P w K mg base CX0 1 t.f_ports_of t.d_ports_of ["path"] (spC (tb t) c_ports_of) :=
  fn_ok (T := tb t) (a := a_ports_of) t.F_ports_of sc_ports_of l_ports_of (by decide) (fun cdv A outer s H E hr =>
    ss_one (s_ret (e_lc (own := [("k", 1)]) rfl sc_ports_of.nd (i_r1 (by rfl) t.n_range (a_cons (e_bin op_sub b_sub (e_cb call_lenAll c_len (by rfl) t.n_len (by decide +kernel) (a_cons (e_v 0) (a_nil))) (e_int)) (a_nil))) (blkOk_by (own := [("k", 1)]) (N := N_ports_of) (sc := defScope s_ports_of) (by decide +kernel)) (by decide) (fun _ _ _ _ _ => g_name (i := 1) sc_ports_of.nd rfl (by first | exact .inl rfl | exact .inr rfl)) (fun _ _ _ _ _ => ts_nil) (fun _ _ _ _ _ => e_tup (a_cons (e_ix rfl (e_v 0) (e_v 1) (fun _ _ => rfl)) (a_cons (e_ix rfl (e_v 0) (e_bin op_addAll b_add (e_v 1) (e_int)) (fun _ _ => rfl)) (a_nil))))))) w_ports_of
theorem ok_windows_at (t : Tx K mg) : FnOk P w K mg base CX0 2 t.f_windows_at t.d_windows_at ["plan", "port"] (spC (tb t) c_windows_at) :=
  fn_ok (T := tb t) (a := a_windows_at) t.F_windows_at sc_windows_at l_windows_at (by decide) (fun cdv A outer s H E hr =>
    ss_cons (s_set (i := 2) sc_windows_at.nd rfl (by first | exact .inl rfl | exact .inr rfl) (e_lst (a_nil))) (ss_cons (s_for PassesOwn.never rfl (i_lst rfl (e_v 0)) (g_name (i := 3) sc_windows_at.nd rfl (by first | exact .inl rfl | exact .inr rfl)) (ss_cons (s_setC (i := 4) sc_windows_at.nd rfl (by first | exact .inl rfl | exact .inr rfl) (e_call (ok_ports_of t) (hr.mono (by decide)) (by rfl) t.m_ports_of t.F_ports_of.kp t.b_ports_of (a_cons (e_fld rfl t.cl_Stream t.n_Stream_path nd_Stream rfl (e_ix rfl (e_v 3) (e_int) (fun _ _ => rfl))) (a_nil)))) (ss_one (s_if (t_cmp (op_inD hr.u65) b_in (e_v 1) (e_v 4) (by rfl)) (ss_one (s_mut m_append rfl (ps_expr (pe_bm PySem.F.plainAttrs_list PySem.F.slot_list_append PySem.F.type_list_append mt_append (pv 2) (a_cons (e_call (ok_window_of t) (hr.mono (by decide)) (by rfl) t.m_window_of t.F_window_of.kp t.b_window_of (a_cons (e_v 3) (a_cons (e_index rfl hr.u65 (e_v 4) (a_cons (e_v 1) (a_nil))) (a_nil)))) (a_nil)))))) (ss_nil))))) (ss_one (s_retV 2)))) w_windows_at
theorem ok__law_draw (t : Tx K mg) : FnOk P w K mg base CX0 1 t.f__law_draw t.d__law_draw ["_law_cell_here", "_law_many", "_law_bound"] (spC (tb t) c__law_draw) :=
  fn_ok (T := tb t) (a := a__law_draw) t.F__law_draw sc__law_draw l__law_draw (by decide) (fun cdv A outer s H E hr =>
    ss_cons (s_set (i := 3) sc__law_draw.nd rfl (by first | exact .inl rfl | exact .inr rfl) (e_lst (a_nil))) (ss_cons (s_if (t_cmp op_ge b_ge (e_v 0) (e_bin op_pow b_pow (e_int) (e_int)) (nomark _)) (ss_cons (s_for PassesOwn.never rfl (i_r1 (by rfl) t.n_range (a_cons (e_v 1) (a_nil))) (g_name (i := 4) sc__law_draw.nd rfl (by first | exact .inl rfl | exact .inr rfl)) (ss_cons (s_mut m_append rfl (ps_expr (pe_bm PySem.F.plainAttrs_list PySem.F.slot_list_append PySem.F.type_list_append mt_append (pv 3) (a_cons (e_bin op_mod b_mod (e_cty call_int1 c_int (by rfl) t.n_int (by decide +kernel) (a_cons (e_v 0) (a_nil))) (e_v 2)) (a_nil))))) (ss_one (s_setC (i := 0) sc__law_draw.nd rfl (by first | exact .inl rfl | exact .inr rfl) (e_bin op_fdiv b_div (e_v 0) (e_v 2)))))) (ss_one (s_retV 3))) (ss_nil)) (ss_cons (s_setC (i := 5) sc__law_draw.nd rfl (by first | exact .inl rfl | exact .inr rfl) (e_bin op_mod b_mod (e_cty call_int1 c_int (by rfl) t.n_int (by decide +kernel) (a_cons (e_v 0) (a_nil))) (e_int))) (ss_cons (s_for PassesOwn.never rfl (i_r1 (by rfl) t.n_range (a_cons (e_v 1) (a_nil))) (g_name (i := 4) sc__law_draw.nd rfl (by first | exact .inl rfl | exact .inr rfl)) (ss_cons (s_setC (i := 5) sc__law_draw.nd rfl (by first | exact .inl rfl | exact .inr rfl) (e_bin op_mod b_mod (e_cty call_int1 c_int (by rfl) t.n_int (by decide +kernel) (a_cons (e_bin op_addAll b_add (e_bin op_addAll b_add (e_bin op_mulAll b_mulAll (e_v 5) (e_int)) (e_int)) (e_v 4)) (a_nil))) (e_int))) (ss_cons (s_setC (i := 6) sc__law_draw.nd rfl (by first | exact .inl rfl | exact .inr rfl) (e_bin op_mod b_mod (e_cty call_int1 c_int (by rfl) t.n_int (by decide +kernel) (a_cons (e_bin op_addAll b_add (e_bin op_mulAll b_mulAll (e_v 5) (e_int)) (e_bin op_mulAll b_mulAll (e_int) (e_v 4))) (a_nil))) (e_int))) (ss_one (s_mut m_append rfl (ps_expr (pe_bm PySem.F.plainAttrs_list PySem.F.slot_list_append PySem.F.type_list_append mt_append (pv 3) (a_cons (e_bin op_mod b_mod (e_cty call_int1 c_int (by rfl) t.n_int (by decide +kernel) (a_cons (e_bin op_fdiv b_div (e_v 6) (e_int)) (a_nil))) (e_v 2)) (a_nil))))))))) (ss_one (s_retV 3)))))) w__law_draw
theorem ok__law_cell (t : Tx K mg) : FnOk P w K mg base CX0 1 t.f__law_cell t.d__law_cell ["_law_script", "_law_k"] (spC (tb t) c__law_cell) :=
  fn_ok (T := tb t) (a := a__law_cell) t.F__law_cell sc__law_cell l__law_cell (by decide) (fun cdv A outer s H E hr =>
    ss_cons (s_if (t_cmp op_lt b_lt (e_v 1) (e_cb call_lenAll c_len (by rfl) t.n_len (by decide +kernel) (a_cons (e_v 0) (a_nil))) (nomark _)) (ss_one (s_ret (e_ix rfl (e_v 0) (e_v 1) (fun _ _ => rfl)))) (ss_nil)) (ss_one (s_ret (e_int)))) w__law_cell
theorem ok_Net___init__ (t : Tx K mg) : FnOk P w K mg base CX0 1 t.f_Net___init__ t.d_Net___init__ ["self", "kinds", "lines", "processing", "error"] (spI (tb t) 0 c_Net___init__) :=
  fn_ini (T := tb t) (a := a_Net___init__) t.F_Net___init__ sc_Net___init__ l_Net___init__ (by show 4 < 1000; decide) (fun cdv A outer s H E hr =>
    i_cons (i_fld rfl t.cl_Net t.n_Net_kinds nd_Net rfl rfl (e_cty call_list_of c_list (by rfl) t.n_list (by decide +kernel) (a_cons (e_v 1) (a_nil)))) (i_cons (i_fld rfl t.cl_Net t.n_Net_lines nd_Net rfl rfl (e_cty call_list_of c_list (by rfl) t.n_list (by decide +kernel) (a_cons (e_v 2) (a_nil)))) (i_cons (i_fld rfl t.cl_Net t.n_Net_processing nd_Net rfl rfl (e_v 3)) (i_one (i_fld rfl t.cl_Net t.n_Net_error nd_Net rfl rfl (e_v 4)))))) w_Net___init__
theorem ok__law_net (t : Tx K mg) : FnOk P w K mg base CX0 3 t.f__law_net t.d__law_net ["_law_cell_here", "_law_more"] (spC (tb t) c__law_net) :=
  fn_ok (T := tb t) (a := a__law_net) t.F__law_net sc__law_net l__law_net (by decide) (fun cdv A outer s H E hr =>
    ss_cons (s_setC (i := 2) sc__law_net.nd rfl (by first | exact .inl rfl | exact .inr rfl) (e_call (ok__law_draw t) (hr.mono (by decide)) (by rfl) t.m__law_draw t.F__law_draw.kp t.b__law_draw (a_cons (e_v 0) (a_cons (e_int) (a_cons (e_bin op_shl b_shl (e_int) (e_int)) (a_nil)))))) (ss_cons (s_setC (i := 3) sc__law_net.nd rfl (by first | exact .inl rfl | exact .inr rfl) (e_bin op_addAll b_add (e_int) (e_bin op_mod b_mod (e_ix rfl (e_v 2) (e_int) (fun _ _ => rfl)) (e_int)))) (ss_cons (s_setC (i := 4) sc__law_net.nd rfl (by first | exact .inl rfl | exact .inr rfl) (e_bin op_addAll b_add (e_int) (e_bin op_mod b_mod (e_ix rfl (e_v 2) (e_int) (fun _ _ => rfl)) (e_int)))) (ss_cons (s_set (i := 5) sc__law_net.nd rfl (by first | exact .inl rfl | exact .inr rfl) (e_bin op_mulAll b_mulAll (e_lst (a_cons (e_str) (a_nil))) (e_v 3))) (ss_cons (s_for PassesOwn.never rfl (i_r1 (by rfl) t.n_range (a_cons (e_v 4) (a_nil))) (g_name (i := 6) sc__law_net.nd rfl (by first | exact .inl rfl | exact .inr rfl)) (ss_one (s_mut m_insert rfl (ps_expr (pe_bm PySem.F.plainAttrs_list PySem.F.slot_list_insert PySem.F.type_list_insert mt_insertA (pv 5) (a_cons (e_bin op_mod b_mod (e_ix rfl (e_v 2) (e_bin op_addAll b_add (e_int) (e_v 6)) (fun _ _ => rfl)) (e_bin op_addAll b_add (e_cb call_lenAll c_len (by rfl) t.n_len (by decide +kernel) (a_cons (e_v 5) (a_nil))) (e_int))) (a_cons (e_str) (a_nil)))))))) (ss_cons (s_set (i := 7) sc__law_net.nd rfl (by first | exact .inl rfl | exact .inr rfl) (e_lst (a_nil))) (ss_cons (s_for PassesOwn.never rfl (i_r1 (by rfl) t.n_range (a_cons (e_cb call_lenAll c_len (by rfl) t.n_len (by decide +kernel) (a_cons (e_v 5) (a_nil))) (a_nil))) (g_name (i := 8) sc__law_net.nd rfl (by first | exact .inl rfl | exact .inr rfl)) (ss_one (s_for PassesOwn.never rfl (i_r1 (by rfl) t.n_range (a_cons (e_v 8) (a_nil))) (g_name (i := 9) sc__law_net.nd rfl (by first | exact .inl rfl | exact .inr rfl)) (ss_one (s_if (PW.pt (w_or (t_cmp (op_eqD hr.u64) b_eq (e_ix rfl (e_v 5) (e_v 8) (fun _ _ => rfl)) (e_str) (nomark _)) (w_or1 (t_cmp (op_eqD hr.u64) b_eq (e_ix rfl (e_v 5) (e_v 9) (fun _ _ => rfl)) (e_str) (nomark _))))) (ss_one (s_mut m_append rfl (ps_expr (pe_bm PySem.F.plainAttrs_list PySem.F.slot_list_append PySem.F.type_list_append mt_append (pv 7) (a_cons (e_tup (a_cons (e_v 8) (a_cons (e_v 9) (a_nil)))) (a_nil)))))) (ss_nil)))))) (ss_cons (s_setC (i := 10) sc__law_net.nd rfl (by first | exact .inl rfl | exact .inr rfl) (e_call (ok__law_draw t) (hr.mono (by decide)) (by rfl) t.m__law_draw t.F__law_draw.kp t.b__law_draw (a_cons (e_v 1) (a_cons (e_bin op_mulAll b_mulAll (e_int) (e_cb call_lenAll c_len (by rfl) t.n_len (by decide +kernel) (a_cons (e_v 7) (a_nil)))) (a_cons (e_bin op_shl b_shl (e_int) (e_int)) (a_nil)))))) (ss_cons (s_set (i := 11) sc__law_net.nd rfl (by first | exact .inl rfl | exact .inr rfl) (e_lst (a_nil))) (ss_cons (s_for PassesOwn.never rfl (i_r1 (by rfl) t.n_range (a_cons (e_cb call_lenAll c_len (by rfl) t.n_len (by decide +kernel) (a_cons (e_v 7) (a_nil))) (a_nil))) (g_name (i := 6) sc__law_net.nd rfl (by first | exact .inl rfl | exact .inr rfl)) (ss_cons (s_asgG (e_ix rfl (e_v 7) (e_v 6) (fun _ _ => rfl)) (g_tup rfl (g_cons (g_name (i := 8) sc__law_net.nd rfl (by first | exact .inl rfl | exact .inr rfl)) (g_cons (g_name (i := 9) sc__law_net.nd rfl (by first | exact .inl rfl | exact .inr rfl)) (g_nil))))) (ss_cons (s_setC (i := 12) sc__law_net.nd rfl (by first | exact .inl rfl | exact .inr rfl) (e_cmp (op_neD hr.u64) b_ne (e_ix rfl (e_v 5) (e_v 8) (fun _ _ => rfl)) (e_ix rfl (e_v 5) (e_v 9) (fun _ _ => rfl)) (nomark _))) (ss_one (s_if (PW.pt (w_or (t_cmp op_lt b_lt (e_bin op_mod b_mod (e_ix rfl (e_v 10) (e_bin op_mulAll b_mulAll (e_int) (e_v 6)) (fun _ _ => rfl)) (e_int)) (e_int) (nomark _)) (w_or1 (PW.pt (w_and (t_val (e_v 12)) (w_and1 (t_cmp (op_eqD hr.u64) b_eq (e_bin op_mod b_mod (e_ix rfl (e_v 10) (e_bin op_mulAll b_mulAll (e_int) (e_v 6)) (fun _ _ => rfl)) (e_int)) (e_int) (nomark _)))))))) (ss_one (s_if (t_cmp (op_eqD hr.u64) b_eq (e_bin op_mod b_mod (e_ix rfl (e_v 10) (e_bin op_addAll b_add (e_bin op_mulAll b_mulAll (e_int) (e_v 6)) (e_int)) (fun _ _ => rfl)) (e_int)) (e_int) (nomark _)) (ss_one (s_mut m_append rfl (ps_expr (pe_bm PySem.F.plainAttrs_list PySem.F.slot_list_append PySem.F.type_list_append mt_append (pv 11) (a_cons (e_tup (a_cons (e_v 8) (a_cons (e_v 9) (a_cons (e_bin op_mod b_mod (e_bin op_fdiv b_div (e_ix rfl (e_v 10) (e_bin op_addAll b_add (e_bin op_mulAll b_mulAll (e_int) (e_v 6)) (e_int)) (fun _ _ => rfl)) (e_int)) (e_int)) (a_nil))))) (a_nil)))))) (ss_one (s_mut m_append rfl (ps_expr (pe_bm PySem.F.plainAttrs_list PySem.F.slot_list_append PySem.F.type_list_append mt_append (pv 11) (a_cons (e_tup (a_cons (e_v 9) (a_cons (e_v 8) (a_cons (e_bin op_mod b_mod (e_bin op_fdiv b_div (e_ix rfl (e_v 10) (e_bin op_addAll b_add (e_bin op_mulAll b_mulAll (e_int) (e_v 6)) (e_int)) (fun _ _ => rfl)) (e_int)) (e_int)) (a_nil))))) (a_nil)))))))) (ss_nil)))))) (ss_cut (s_if (t_cmp (op_eqD hr.u64) b_eq (e_bin op_mod b_mod (e_ix rfl (e_v 2) (e_int) (fun _ _ => rfl)) (e_int)) (e_int) (nomark _)) (ss_one (s_for PassesOwn.never rfl (i_r1 (by rfl) t.n_range (a_cons (e_cb call_lenAll c_len (by rfl) t.n_len (by decide +kernel) (a_cons (e_v 5) (a_nil))) (a_nil))) (g_name (i := 8) sc__law_net.nd rfl (by first | exact .inl rfl | exact .inr rfl)) (ss_one (s_for PassesOwn.never rfl (i_r1 (by rfl) t.n_range (a_cons (e_v 8) (a_nil))) (g_name (i := 9) sc__law_net.nd rfl (by first | exact .inl rfl | exact .inr rfl)) (ss_one (s_if (PW.pt (w_and (t_cmp (op_eqD hr.u64) b_eq (e_ix rfl (e_v 5) (e_v 8) (fun _ _ => rfl)) (e_str) (nomark _)) (w_and (t_cmp (op_eqD hr.u64) b_eq (e_ix rfl (e_v 5) (e_v 9) (fun _ _ => rfl)) (e_str) (nomark _)) (w_and1 (t_cmp op_lt b_lt (e_cb call_lenAll c_len (by rfl) t.n_len (by decide +kernel) (a_cons (e_v 11) (a_nil))) (e_int) (nomark _)))))) (ss_one (s_mut m_append rfl (ps_expr (pe_bm PySem.F.plainAttrs_list PySem.F.slot_list_append PySem.F.type_list_append mt_append (pv 11) (a_cons (e_tup (a_cons (e_v 8) (a_cons (e_v 9) (a_cons (e_bin op_mod b_mod (e_ix rfl (e_v 2) (e_int) (fun _ _ => rfl)) (e_int)) (a_nil))))) (a_nil)))))) (ss_nil))))))) (ss_nil)) (ss_one (s_ret (e_makeK (ks := ["processing", "error"]) t.mk_Net (ok_Net___init__ t) (hr.mono (by decide)) (by rfl) t.mC_Net t.kb_Net___init__ (a_cons (e_v 5) (a_cons (e_v 11) (a_nil))) (k_cons (e_bin op_mod b_mod (e_bin op_fdiv b_div (e_ix rfl (e_v 2) (e_int) (fun _ _ => rfl)) (e_int)) (e_int)) (k_cons (e_ix rfl (e_lst (a_cons (e_int) (a_cons (e_int) (a_cons (e_int) (a_cons (e_int) (a_nil)))))) (e_bin op_mod b_mod (e_ix rfl (e_v 2) (e_int) (fun _ _ => rfl)) (e_int)) (fun _ _ => rfl)) (k_nil))))))))))))))))) w__law_net
theorem ok__law_joined (t : Tx K mg) : FnOk P w K mg base CX0 1 t.f__law_joined t.d__law_joined ["_law_net_here", "_law_a", "_law_b"] (spC (tb t) c__law_joined) :=
  fn_ok (T := tb t) (a := a__law_joined) t.F__law_joined sc__law_joined l__law_joined (by decide) (fun cdv A outer s H E hr =>
    ss_cons (s_for PassesOwn.never rfl (i_lst rfl (e_fld rfl t.cl_Net t.n_Net_lines nd_Net rfl (e_v 0))) (g_tup rfl (g_cons (g_name (i := 3) sc__law_joined.nd rfl (by first | exact .inl rfl | exact .inr rfl)) (g_cons (g_name (i := 4) sc__law_joined.nd rfl (by first | exact .inl rfl | exact .inr rfl)) (g_cons (g_name (i := 5) sc__law_joined.nd rfl (by first | exact .inl rfl | exact .inr rfl)) (g_nil))))) (ss_one (s_if (PW.pt (w_or (PW.pt (w_and (t_cmp (op_eqD hr.u64) b_eq (e_v 3) (e_v 1) (nomark _)) (w_and1 (t_cmp (op_eqD hr.u64) b_eq (e_v 4) (e_v 2) (nomark _))))) (w_or1 (PW.pt (w_and (t_cmp (op_eqD hr.u64) b_eq (e_v 3) (e_v 2) (nomark _)) (w_and1 (t_cmp (op_eqD hr.u64) b_eq (e_v 4) (e_v 1) (nomark _)))))))) (ss_one (s_retV 5)) (ss_nil)))) (ss_one (s_ret (e_non)))) w__law_joined
theorem ok__law_paths (t : Tx K mg) : FnOk P w K mg base CX0 2 t.f__law_paths t.d__law_paths ["_law_net_here", "_law_most"] (spC (tb t) c__law_paths) :=
  fn_ok (T := tb t) (a := a__law_paths) t.F__law_paths sc__law_paths l__law_paths (by decide) (fun cdv A outer s H E hr =>
    ss_cons (s_set (i := 2) sc__law_paths.nd rfl (by first | exact .inl rfl | exact .inr rfl) (e_lst (a_nil))) (ss_cons (s_setCLc (i := 3) (own := [("_law_a", 4)]) rfl sc__law_paths.nd rfl rfl (sw_true rfl rfl rfl (by decide +kernel)) (i_r1 (by rfl) t.n_range (a_cons (e_cb call_lenAll c_len (by rfl) t.n_len (by decide +kernel) (a_cons (e_fld rfl t.cl_Net t.n_Net_kinds nd_Net rfl (e_v 0)) (a_nil))) (a_nil))) (blkOk_by (own := [("_law_a", 4)]) (N := N__law_paths) (sc := defScope s__law_paths) (by decide +kernel)) (by decide) (fun _ _ _ _ _ => g_name (i := 4) sc__law_paths.nd rfl (by first | exact .inl rfl | exact .inr rfl)) (fun _ _ _ _ _ => ts_one (t_cmp (op_eqD hr.u64) b_eq (e_ix rfl (e_fld rfl t.cl_Net t.n_Net_kinds nd_Net rfl (e_v 0)) (e_v 4) (fun _ _ => rfl)) (e_str) (nomark _))) (fun _ _ _ _ _ => e_lst (a_cons (e_v 4) (a_nil)))) (ss_cons (s_for PassesOwn.never rfl (i_r1 (by rfl) t.n_range (a_cons (e_bin op_sub b_sub (e_v 1) (e_int)) (a_nil))) (g_name (i := 5) sc__law_paths.nd rfl (by first | exact .inl rfl | exact .inr rfl)) (ss_cons (s_set (i := 6) sc__law_paths.nd rfl (by first | exact .inl rfl | exact .inr rfl) (e_lst (a_nil))) (ss_cons (s_for PassesOwn.never rfl (i_lst rfl (e_v 3)) (g_name (i := 7) sc__law_paths.nd rfl (by first | exact .inl rfl | exact .inr rfl)) (ss_one (s_for PassesOwn.never rfl (i_r1 (by rfl) t.n_range (a_cons (e_cb call_lenAll c_len (by rfl) t.n_len (by decide +kernel) (a_cons (e_fld rfl t.cl_Net t.n_Net_kinds nd_Net rfl (e_v 0)) (a_nil))) (a_nil))) (g_name (i := 8) sc__law_paths.nd rfl (by first | exact .inl rfl | exact .inr rfl)) (ss_one (s_if (PW.pt (w_and (t_cmp (op_notInD hr.u65) b_notIn (e_v 8) (e_v 7) (by rfl)) (w_and1 (t_cmp op_notN1 b_notN (e_call (ok__law_joined t) (hr.mono (by decide)) (by rfl) t.m__law_joined t.F__law_joined.kp t.b__law_joined (a_cons (e_v 0) (a_cons (e_ix rfl (e_v 7) (e_bin op_sub b_sub (e_cb call_lenAll c_len (by rfl) t.n_len (by decide +kernel) (a_cons (e_v 7) (a_nil))) (e_int)) (fun _ _ => rfl)) (a_cons (e_v 8) (a_nil))))) (e_non) (nomark _))))) (ss_one (s_if (t_cmp (op_eqD hr.u64) b_eq (e_ix rfl (e_fld rfl t.cl_Net t.n_Net_kinds nd_Net rfl (e_v 0)) (e_v 8) (fun _ _ => rfl)) (e_str) (nomark _)) (ss_one (s_mut m_append rfl (ps_expr (pe_bm PySem.F.plainAttrs_list PySem.F.slot_list_append PySem.F.type_list_append mt_append (pv 2) (a_cons (e_bin op_addAll b_add (e_v 7) (e_lst (a_cons (e_v 8) (a_nil)))) (a_nil)))))) (ss_one (s_mut m_append rfl (ps_expr (pe_bm PySem.F.plainAttrs_list PySem.F.slot_list_append PySem.F.type_list_append mt_append (pv 6) (a_cons (e_bin op_addAll b_add (e_v 7) (e_lst (a_cons (e_v 8) (a_nil)))) (a_nil)))))))) (ss_nil)))))) (ss_one (s_frz 6 (s_setC (i := 3) sc__law_paths.nd rfl (by first | exact .inl rfl | exact .inr rfl) (e_v 6))))))) (ss_one (s_retV 2))))) w__law_paths
theorem ok__law_ready (t : Tx K mg) : FnOk P w K mg base CX0 2 t.f__law_ready t.d__law_ready ["_law_net_here", "_law_stream", "_law_offsets"] (spC (tb t) c__law_ready) :=
  fn_ok (T := tb t) (a := a__law_ready) t.F__law_ready sc__law_ready l__law_ready (by decide) (fun cdv A outer s H E hr =>
    ss_cons (s_setC (i := 3) sc__law_ready.nd rfl (by first | exact .inl rfl | exact .inr rfl) (e_bin op_sub b_sub (e_cb call_lenAll c_len (by rfl) t.n_len (by decide +kernel) (a_cons (e_v 2) (a_nil))) (e_int))) (ss_cons (s_setC (i := 4) sc__law_ready.nd rfl (by first | exact .inl rfl | exact .inr rfl) (e_ix rfl (e_fld rfl t.cl_Stream t.n_Stream_path nd_Stream rfl (e_v 1)) (e_v 3) (fun _ _ => rfl))) (ss_cons (s_setC (i := 5) sc__law_ready.nd rfl (by first | exact .inl rfl | exact .inr rfl) (e_ix rfl (e_fld rfl t.cl_Stream t.n_Stream_path nd_Stream rfl (e_v 1)) (e_bin op_addAll b_add (e_v 3) (e_int)) (fun _ _ => rfl))) (ss_cons (s_setC (i := 6) sc__law_ready.nd rfl (by first | exact .inl rfl | exact .inr rfl) (e_bin op_addAll b_add (e_bin op_addAll b_add (e_ix rfl (e_v 2) (e_v 3) (fun _ _ => rfl)) (e_fld rfl t.cl_Stream t.n_Stream_length nd_Stream rfl (e_v 1))) (e_call (ok__law_joined t) (hr.mono (by decide)) (by rfl) t.m__law_joined t.F__law_joined.kp t.b__law_joined (a_cons (e_v 0) (a_cons (e_v 4) (a_cons (e_v 5) (a_nil))))))) (ss_cut (s_if (t_cmp (op_eqD hr.u64) b_eq (e_ix rfl (e_fld rfl t.cl_Net t.n_Net_kinds nd_Net rfl (e_v 0)) (e_v 5) (fun _ _ => rfl)) (e_str) (nomark _)) (ss_one (s_setC (i := 6) sc__law_ready.nd rfl (by first | exact .inl rfl | exact .inr rfl) (e_bin op_addAll b_add (e_v 6) (e_fld rfl t.cl_Net t.n_Net_processing nd_Net rfl (e_v 0))))) (ss_nil)) (ss_one (s_retV 6))))))) w__law_ready
theorem ok_Stream___init__ (t : Tx K mg) : FnOk P w K mg base CX0 1 t.f_Stream___init__ t.d_Stream___init__ ["self", "period", "length", "deadline", "path"] (spI (tb t) 1 c_Stream___init__) :=
  fn_ini (T := tb t) (a := a_Stream___init__) t.F_Stream___init__ sc_Stream___init__ l_Stream___init__ (by show 4 < 1000; decide) (fun cdv A outer s H E hr =>
    i_cons (i_fld rfl t.cl_Stream t.n_Stream_period nd_Stream rfl rfl (e_v 1)) (i_cons (i_fld rfl t.cl_Stream t.n_Stream_length nd_Stream rfl rfl (e_v 2)) (i_cons (i_fld rfl t.cl_Stream t.n_Stream_deadline nd_Stream rfl rfl (e_v 3)) (i_one (i_fld rfl t.cl_Stream t.n_Stream_path nd_Stream rfl rfl (e_cty call_list_of c_list (by rfl) t.n_list (by decide +kernel) (a_cons (e_v 4) (a_nil)))))))) w_Stream___init__
theorem ok__law_entry (t : Tx K mg) : FnOk P w K mg base CX0 3 t.f__law_entry t.d__law_entry ["_law_net_here", "_law_paths_here", "_law_cell_here", "_law_tight"] (spC (tb t) c__law_entry) :=
  fn_ok (T := tb t) (a := a__law_entry) t.F__law_entry sc__law_entry l__law_entry (by decide) (fun cdv A outer s H E hr =>
    ss_cons (s_setC (i := 4) sc__law_entry.nd rfl (by first | exact .inl rfl | exact .inr rfl) (e_call (ok__law_draw t) (hr.mono (by decide)) (by rfl) t.m__law_draw t.F__law_draw.kp t.b__law_draw (a_cons (e_v 2) (a_cons (e_int) (a_cons (e_bin op_shl b_shl (e_int) (e_int)) (a_nil)))))) (ss_cons (s_setC (i := 5) sc__law_entry.nd rfl (by first | exact .inl rfl | exact .inr rfl) (e_ix rfl (e_v 1) (e_bin op_mod b_mod (e_ix rfl (e_v 4) (e_int) (fun _ _ => rfl)) (e_cb call_lenAll c_len (by rfl) t.n_len (by decide +kernel) (a_cons (e_v 1) (a_nil)))) (fun _ _ => rfl))) (ss_cons (s_setC (i := 6) sc__law_entry.nd rfl (by first | exact .inl rfl | exact .inr rfl) (e_ix rfl (e_lst (a_cons (e_int) (a_cons (e_int) (a_cons (e_int) (a_cons (e_int) (a_cons (e_int) (a_cons (e_int) (a_nil)))))))) (e_bin op_mod b_mod (e_ix rfl (e_v 4) (e_int) (fun _ _ => rfl)) (e_int)) (fun _ _ => rfl))) (ss_cons (s_setC (i := 7) sc__law_entry.nd rfl (by first | exact .inl rfl | exact .inr rfl) (e_bin op_addAll b_add (e_int) (e_bin op_mod b_mod (e_ix rfl (e_v 4) (e_int) (fun _ _ => rfl)) (e_int)))) (ss_cons (s_setC (i := 8) sc__law_entry.nd rfl (by first | exact .inl rfl | exact .inr rfl) (e_make t.mk_Stream (ok_Stream___init__ t) (hr.mono (by decide)) (by rfl) t.mC_Stream t.b_Stream___init__ (a_cons (e_v 6) (a_cons (e_v 7) (a_cons (e_int) (a_cons (e_v 5) (a_nil))))))) (ss_cons (s_set (i := 9) sc__law_entry.nd rfl (by first | exact .inl rfl | exact .inr rfl) (e_lst (a_cons (e_bin op_mod b_mod (e_ix rfl (e_v 4) (e_int) (fun _ _ => rfl)) (e_v 6)) (a_nil)))) (ss_cons (s_for PassesOwn.never rfl (i_r2 (by rfl) t.n_range (a_cons (e_int) (a_cons (e_bin op_sub b_sub (e_cb call_lenAll c_len (by rfl) t.n_len (by decide +kernel) (a_cons (e_v 5) (a_nil))) (e_int)) (a_nil)))) (g_name (i := 10) sc__law_entry.nd rfl (by first | exact .inl rfl | exact .inr rfl)) (ss_cons (s_setC (i := 11) sc__law_entry.nd rfl (by first | exact .inl rfl | exact .inr rfl) (e_bin op_mod b_mod (e_ix rfl (e_v 4) (e_bin op_addAll b_add (e_int) (e_bin op_mod b_mod (e_v 10) (e_int))) (fun _ _ => rfl)) (e_int))) (ss_cut (s_if (PW.pt (w_and (t_cmp (op_eqD hr.u64) b_eq (e_bin op_mod b_mod (e_bin op_fdiv b_div (e_ix rfl (e_v 4) (e_bin op_addAll b_add (e_int) (e_bin op_mod b_mod (e_v 10) (e_int))) (fun _ _ => rfl)) (e_int)) (e_int)) (e_int) (nomark _)) (w_and1 (t_not (t_val (e_v 3)))))) (ss_one (s_setC (i := 11) sc__law_entry.nd rfl (by first | exact .inl rfl | exact .inr rfl) (e_un un_neg u_neg (e_int)))) (ss_nil)) (ss_one (s_mut m_append rfl (ps_expr (pe_bm PySem.F.plainAttrs_list PySem.F.slot_list_append PySem.F.type_list_append mt_append (pv 9) (a_cons (e_cb (call_max2 rfl) c_max2 (by rfl) t.n_max (by decide +kernel) (a_cons (e_int) (a_cons (e_bin op_addAll b_add (e_bin op_addAll b_add (e_call (ok__law_ready t) (hr.mono (by decide)) (by rfl) t.m__law_ready t.F__law_ready.kp t.b__law_ready (a_cons (e_v 0) (a_cons (e_v 8) (a_cons (e_v 9) (a_nil))))) (e_bin op_mulAll b_mulAll (e_int) (e_fld rfl t.cl_Net t.n_Net_error nd_Net rfl (e_v 0)))) (e_v 11)) (a_nil)))) (a_nil))))))))) (ss_cons (s_setC (i := 12) sc__law_entry.nd rfl (by first | exact .inl rfl | exact .inr rfl) (e_bin op_mod b_mod (e_ix rfl (e_v 4) (e_int) (fun _ _ => rfl)) (e_int))) (ss_cut (s_if (PW.pt (w_and (t_cmp (op_eqD hr.u64) b_eq (e_bin op_mod b_mod (e_bin op_fdiv b_div (e_ix rfl (e_v 4) (e_int) (fun _ _ => rfl)) (e_int)) (e_int)) (e_int) (nomark _)) (w_and1 (t_not (t_val (e_v 3)))))) (ss_one (s_setC (i := 12) sc__law_entry.nd rfl (by first | exact .inl rfl | exact .inr rfl) (e_un un_neg u_neg (e_int)))) (ss_nil)) (ss_cons (s_setC (i := 13) sc__law_entry.nd rfl (by first | exact .inl rfl | exact .inr rfl) (e_cb (call_max2 rfl) c_max2 (by rfl) t.n_max (by decide +kernel) (a_cons (e_int) (a_cons (e_bin op_addAll b_add (e_bin op_addAll b_add (e_call (ok__law_ready t) (hr.mono (by decide)) (by rfl) t.m__law_ready t.F__law_ready.kp t.b__law_ready (a_cons (e_v 0) (a_cons (e_v 8) (a_cons (e_v 9) (a_nil))))) (e_fld rfl t.cl_Net t.n_Net_error nd_Net rfl (e_v 0))) (e_v 12)) (a_nil))))) (ss_one (s_frz 9 (s_ret (e_tup (a_cons (e_make t.mk_Stream (ok_Stream___init__ t) (hr.mono (by decide)) (by rfl) t.mC_Stream t.b_Stream___init__ (a_cons (e_v 6) (a_cons (e_v 7) (a_cons (e_v 13) (a_cons (e_v 5) (a_nil)))))) (a_cons (e_v 9) (a_nil))))))))))))))))) w__law_entry
theorem ok_Stream___eq__ (t : Tx K mg) : FnOk P w K mg base CX0 3 t.f_Stream___eq__ t.d_Stream___eq__ ["self", "other"] (spC (tb t) c_Stream___eq__) :=
  fn_ok (T := tb t) (a := a_Stream___eq__) t.F_Stream___eq__ sc_Stream___eq__ l_Stream___eq__ (by decide) (fun cdv A outer s H E hr =>
    ss_cons (s_if (t_not (t_val (e_isO rfl t.is_Stream t.n_isinstance (by rfl) (by rfl) t.mC_Stream (e_v 1)))) (ss_one (s_ret (e_bl))) (ss_nil)) (ss_cons (s_if (PW.pt (w_or (t_cmp (op_neD hr.u64) b_ne (e_fld rfl t.cl_Stream t.n_Stream_period nd_Stream rfl (e_v 0)) (e_fld rfl t.cl_Stream t.n_Stream_period nd_Stream rfl (e_v 1)) (nomark _)) (w_or1 (t_cmp (op_neD hr.u64) b_ne (e_fld rfl t.cl_Stream t.n_Stream_length nd_Stream rfl (e_v 0)) (e_fld rfl t.cl_Stream t.n_Stream_length nd_Stream rfl (e_v 1)) (nomark _))))) (ss_one (s_ret (e_bl))) (ss_nil)) (ss_one (s_ret (e_and (e_cmp (op_eqD hr.u64) b_eq (e_fld rfl t.cl_Stream t.n_Stream_deadline nd_Stream rfl (e_v 0)) (e_fld rfl t.cl_Stream t.n_Stream_deadline nd_Stream rfl (e_v 1)) (nomark _)) (e_one (e_cmp (op_eqD hr.u64) b_eq (e_fld rfl t.cl_Stream t.n_Stream_path nd_Stream rfl (e_v 0)) (e_fld rfl t.cl_Stream t.n_Stream_path nd_Stream rfl (e_v 1)) (nomark _)))))))) w_Stream___eq__
theorem ok__law_stream_holds (t : Tx K mg) : FnOk P w K mg base CX0 4 t.f__law_stream_holds t.d__law_stream_holds ["_law_stream", "_law_numbers"] (spC (tb t) c__law_stream_holds) :=
  fn_ok (T := tb t) (a := a__law_stream_holds) t.F__law_stream_holds sc__law_stream_holds l__law_stream_holds (by decide) (fun cdv A outer s H E hr =>
    ss_cons (s_set (i := 2) sc__law_stream_holds.nd rfl (by first | exact .inl rfl | exact .inr rfl) (e_cty call_list_of c_list (by rfl) t.n_list (by decide +kernel) (a_cons (e_fld rfl t.cl_Stream t.n_Stream_path nd_Stream rfl (e_v 0)) (a_nil)))) (ss_cons (s_setC (i := 3) sc__law_stream_holds.nd rfl (by first | exact .inl rfl | exact .inr rfl) (e_make t.mk_Stream (ok_Stream___init__ t) (hr.mono (by decide)) (by rfl) t.mC_Stream t.b_Stream___init__ (a_cons (e_fld rfl t.cl_Stream t.n_Stream_period nd_Stream rfl (e_v 0)) (a_cons (e_fld rfl t.cl_Stream t.n_Stream_length nd_Stream rfl (e_v 0)) (a_cons (e_fld rfl t.cl_Stream t.n_Stream_deadline nd_Stream rfl (e_v 0)) (a_cons (e_v 2) (a_nil))))))) (ss_cons (s_mut m_append rfl (ps_expr (pe_bm PySem.F.plainAttrs_list PySem.F.slot_list_append PySem.F.type_list_append mt_append (pv 2) (a_cons (e_int) (a_nil))))) (ss_cons (s_if (PW.pt (w_or (t_cmp (op_neD hr.u64) b_ne (e_fld rfl t.cl_Stream t.n_Stream_path nd_Stream rfl (e_v 3)) (e_fld rfl t.cl_Stream t.n_Stream_path nd_Stream rfl (e_v 0)) (nomark _)) (w_or (t_not (t_cmp (op_own (ok_Stream___eq__ t) t.mt_Stream___eq__ t.b_Stream___eq__ pass0 (hr.mono (by decide))) (b_eqO t.eo_Stream) (e_v 3) (e_v 0) (nomark _))) (w_or (t_cmp (op_own (ok_Stream___eq__ t) t.mt_Stream___eq__ t.b_Stream___eq__ pass0 (hr.mono (by decide))) (b_eqO t.eo_Stream) (e_v 3) (e_fld rfl t.cl_Stream t.n_Stream_path nd_Stream rfl (e_v 0)) (nomark _)) (w_or1 (t_cmp (op_own (ok_Stream___eq__ t) t.mt_Stream___eq__ t.b_Stream___eq__ pass0 (hr.mono (by decide))) (b_eqO t.eo_Stream) (e_v 3) (e_int) (nomark _))))))) (ss_one (s_ret (e_bl))) (ss_nil)) (ss_cons (s_set (i := 4) sc__law_stream_holds.nd rfl (by first | exact .inl rfl | exact .inr rfl) (e_lst (a_cons (e_fld rfl t.cl_Stream t.n_Stream_period nd_Stream rfl (e_v 0)) (a_cons (e_fld rfl t.cl_Stream t.n_Stream_length nd_Stream rfl (e_v 0)) (a_cons (e_fld rfl t.cl_Stream t.n_Stream_deadline nd_Stream rfl (e_v 0)) (a_nil)))))) (ss_cons (s_setIx (ps_asg (e_bin op_addAll b_add (e_ix rfl (e_v 4) (e_bin op_mod b_mod (e_ix rfl (e_v 1) (e_int) (fun _ _ => rfl)) (e_int)) (fun _ _ => rfl)) (e_int)) (pg_sub (pv 4) (e_bin op_mod b_mod (e_ix rfl (e_v 1) (e_int) (fun _ _ => rfl)) (e_int)) set_list))) (ss_cons (s_if (t_cmp (op_own (ok_Stream___eq__ t) t.mt_Stream___eq__ t.b_Stream___eq__ pass0 (hr.mono (by decide))) (b_eqO t.eo_Stream) (e_make t.mk_Stream (ok_Stream___init__ t) (hr.mono (by decide)) (by rfl) t.mC_Stream t.b_Stream___init__ (a_cons (e_ix rfl (e_v 4) (e_int) (fun _ _ => rfl)) (a_cons (e_ix rfl (e_v 4) (e_int) (fun _ _ => rfl)) (a_cons (e_ix rfl (e_v 4) (e_int) (fun _ _ => rfl)) (a_cons (e_cty call_list_of c_list (by rfl) t.n_list (by decide +kernel) (a_cons (e_fld rfl t.cl_Stream t.n_Stream_path nd_Stream rfl (e_v 0)) (a_nil))) (a_nil)))))) (e_v 0) (nomark _)) (ss_one (s_ret (e_bl))) (ss_nil)) (ss_one (s_ret (e_not (e_cmp (op_own (ok_Stream___eq__ t) t.mt_Stream___eq__ t.b_Stream___eq__ pass0 (hr.mono (by decide))) (b_eqO t.eo_Stream) (e_make t.mk_Stream (ok_Stream___init__ t) (hr.mono (by decide)) (by rfl) t.mC_Stream t.b_Stream___init__ (a_cons (e_fld rfl t.cl_Stream t.n_Stream_period nd_Stream rfl (e_v 0)) (a_cons (e_fld rfl t.cl_Stream t.n_Stream_length nd_Stream rfl (e_v 0)) (a_cons (e_fld rfl t.cl_Stream t.n_Stream_deadline nd_Stream rfl (e_v 0)) (a_cons (e_bin op_addAll b_add (e_sl rfl (e_fld rfl t.cl_Stream t.n_Stream_path nd_Stream rfl (e_v 0)) (o_some (e_int)) (o_none)) (e_lst (a_cons (e_int) (a_nil)))) (a_nil)))))) (e_v 0) (nomark _)))))))))))) w__law_stream_holds
theorem ok_law (t : Tx K mg) : FnOk P w K mg base CX0 5 t.f_law t.d_law ["_law_script"] (spC (tb t) c_law) :=
  fn_ok (T := tb t) (a := a_law) t.F_law sc_law l_law (by decide) (fun cdv A outer s H E hr =>
    ss_cons (s_setC (i := 1) sc_law.nd rfl (by first | exact .inl rfl | exact .inr rfl) (e_call (ok__law_net t) (hr.mono (by decide)) (by rfl) t.m__law_net t.F__law_net.kp t.b__law_net (a_cons (e_call (ok__law_cell t) (hr.mono (by decide)) (by rfl) t.m__law_cell t.F__law_cell.kp t.b__law_cell (a_cons (e_v 0) (a_cons (e_int) (a_nil)))) (a_cons (e_call (ok__law_cell t) (hr.mono (by decide)) (by rfl) t.m__law_cell t.F__law_cell.kp t.b__law_cell (a_cons (e_v 0) (a_cons (e_int) (a_nil)))) (a_nil))))) (ss_cons (s_setC (i := 2) sc_law.nd rfl (by first | exact .inl rfl | exact .inr rfl) (e_call (ok__law_paths t) (hr.mono (by decide)) (by rfl) t.m__law_paths t.F__law_paths.kp t.b__law_paths (a_cons (e_v 1) (a_cons (e_int) (a_nil))))) (ss_cons (s_if (t_cmp (op_eqD hr.u64) b_eq (e_cb call_lenAll c_len (by rfl) t.n_len (by decide +kernel) (a_cons (e_v 2) (a_nil))) (e_int) (nomark _)) (ss_one (s_ret (e_bl))) (ss_nil)) (ss_cons (s_set (i := 3) sc_law.nd rfl (by first | exact .inl rfl | exact .inr rfl) (e_lst (a_nil))) (ss_cons (s_for PassesOwn.never rfl (i_r1 (by rfl) t.n_range (a_cons (e_bin op_addAll b_add (e_int) (e_bin op_mod b_mod (e_cty call_int1 c_int (by rfl) t.n_int (by decide +kernel) (a_cons (e_call (ok__law_cell t) (hr.mono (by decide)) (by rfl) t.m__law_cell t.F__law_cell.kp t.b__law_cell (a_cons (e_v 0) (a_cons (e_int) (a_nil)))) (a_nil))) (e_int))) (a_nil))) (g_name (i := 4) sc_law.nd rfl (by first | exact .inl rfl | exact .inr rfl)) (ss_one (s_mut m_append rfl (ps_expr (pe_bm PySem.F.plainAttrs_list PySem.F.slot_list_append PySem.F.type_list_append mt_append (pv 3) (a_cons (e_call (ok__law_entry t) (hr.mono (by decide)) (by rfl) t.m__law_entry t.F__law_entry.kp t.b__law_entry (a_cons (e_v 1) (a_cons (e_v 2) (a_cons (e_call (ok__law_cell t) (hr.mono (by decide)) (by rfl) t.m__law_cell t.F__law_cell.kp t.b__law_cell (a_cons (e_v 0) (a_cons (e_bin op_addAll b_add (e_int) (e_v 4)) (a_nil)))) (a_cons (e_bl) (a_nil)))))) (a_nil))))))) (ss_cons (s_set (i := 5) sc_law.nd rfl (by first | exact .inl rfl | exact .inr rfl) (e_dnewT)) (ss_cons (s_frz 3 (s_for PassesOwn.never rfl (i_lst rfl (e_v 3)) (g_name (i := 6) sc_law.nd rfl (by first | exact .inl rfl | exact .inr rfl)) (ss_cons (s_asgG (e_v 6) (g_tup rfl (g_cons (g_name (i := 7) sc_law.nd rfl (by first | exact .inl rfl | exact .inr rfl)) (g_cons (g_name (i := 8) sc_law.nd rfl (by first | exact .inl rfl | exact .inr rfl)) (g_nil))))) (ss_cons (s_if (t_not (t_val (e_call (ok__law_stream_holds t) (hr.mono (by decide)) (by rfl) t.m__law_stream_holds t.F__law_stream_holds.kp t.b__law_stream_holds (a_cons (e_v 7) (a_cons (e_call (ok__law_draw t) (hr.mono (by decide)) (by rfl) t.m__law_draw t.F__law_draw.kp t.b__law_draw (a_cons (e_call (ok__law_cell t) (hr.mono (by decide)) (by rfl) t.m__law_cell t.F__law_cell.kp t.b__law_cell (a_cons (e_v 0) (a_cons (e_int) (a_nil)))) (a_cons (e_int) (a_cons (e_bin op_shl b_shl (e_int) (e_int)) (a_nil))))) (a_nil)))))) (ss_one (s_ret (e_bl))) (ss_nil)) (ss_one (s_for PassesOwn.never rfl (i_r1 (by rfl) t.n_range (a_cons (e_cb call_lenAll c_len (by rfl) t.n_len (by decide +kernel) (a_cons (e_v 8) (a_nil))) (a_nil))) (g_name (i := 9) sc_law.nd rfl (by first | exact .inl rfl | exact .inr rfl)) (ss_cons (s_setC (i := 10) sc_law.nd rfl (by first | exact .inl rfl | exact .inr rfl) (e_tup (a_cons (e_ix rfl (e_v 8) (e_v 9) (fun _ _ => rfl)) (a_cons (e_fld rfl t.cl_Stream t.n_Stream_length nd_Stream rfl (e_v 7)) (a_cons (e_fld rfl t.cl_Stream t.n_Stream_period nd_Stream rfl (e_v 7)) (a_nil)))))) (ss_cons (s_if (t_cmp (op_neD hr.u64) b_ne (e_call (ok_window_of t) (hr.mono (by decide)) (by rfl) t.m_window_of t.F_window_of.kp t.b_window_of (a_cons (e_v 6) (a_cons (e_v 9) (a_nil)))) (e_v 10) (nomark _)) (ss_one (s_ret (e_bl))) (ss_nil)) (ss_cons (s_if (t_cmp (op_neD hr.u64) b_ne (e_call (ok_arrival_of t) (hr.mono (by decide)) (by rfl) t.m_arrival_of t.F_arrival_of.kp t.b_arrival_of (a_cons (e_v 1) (a_cons (e_v 6) (a_cons (e_v 9) (a_nil))))) (e_call (ok__law_ready t) (hr.mono (by decide)) (by rfl) t.m__law_ready t.F__law_ready.kp t.b__law_ready (a_cons (e_v 1) (a_cons (e_v 7) (a_cons (e_sl rfl (e_v 8) (o_none) (o_some (e_bin op_addAll b_add (e_v 9) (e_int)))) (a_nil))))) (nomark _)) (ss_one (s_ret (e_bl))) (ss_nil)) (ss_cons (s_setC (i := 11) sc_law.nd rfl (by first | exact .inl rfl | exact .inr rfl) (e_tup (a_cons (e_ix rfl (e_fld rfl t.cl_Stream t.n_Stream_path nd_Stream rfl (e_v 7)) (e_v 9) (fun _ _ => rfl)) (a_cons (e_ix rfl (e_fld rfl t.cl_Stream t.n_Stream_path nd_Stream rfl (e_v 7)) (e_bin op_addAll b_add (e_v 9) (e_int)) (fun _ _ => rfl)) (a_nil))))) (ss_one (s_dput hr.u1 (pv 5) (e_v 11) (e_bin op_addAll b_add (e_dget hr.u1 (e_v 5) (e_v 11) (e_lst (a_nil)) ⟨rfl, rfl, rfl, rfl⟩) (e_lst (a_cons (e_v 10) (a_nil)))))))))))))))) (ss_cons (s_for PassesOwn.never rfl (i_r1 (by rfl) t.n_range (a_cons (e_cb call_lenAll c_len (by rfl) t.n_len (by decide +kernel) (a_cons (e_fld rfl t.cl_Net t.n_Net_kinds nd_Net rfl (e_v 1)) (a_nil))) (a_nil))) (g_name (i := 12) sc_law.nd rfl (by first | exact .inl rfl | exact .inr rfl)) (ss_one (s_for PassesOwn.never rfl (i_r1 (by rfl) t.n_range (a_cons (e_cb call_lenAll c_len (by rfl) t.n_len (by decide +kernel) (a_cons (e_fld rfl t.cl_Net t.n_Net_kinds nd_Net rfl (e_v 1)) (a_nil))) (a_nil))) (g_name (i := 13) sc_law.nd rfl (by first | exact .inl rfl | exact .inr rfl)) (ss_one (s_if (PW.pt (w_and (t_cmp (op_neD hr.u64) b_ne (e_v 12) (e_v 13) (nomark _)) (w_and1 (t_cmp (op_neD hr.u64) b_ne (e_call (ok_windows_at t) (hr.mono (by decide)) (by rfl) t.m_windows_at t.F_windows_at.kp t.b_windows_at (a_cons (e_v 3) (a_cons (e_tup (a_cons (e_v 12) (a_cons (e_v 13) (a_nil)))) (a_nil)))) (e_dget hr.u1 (e_v 5) (e_tup (a_cons (e_v 12) (a_cons (e_v 13) (a_nil)))) (e_lst (a_nil)) ⟨rfl, rfl, rfl, rfl⟩) (nomark _))))) (ss_one (s_ret (e_bl))) (ss_nil)))))) (ss_one (s_ret (e_bl))))))))))) w_law
end
def spLaw (K : PySem.W.Frag) : Sp := fun vs H Q _ => ∃ (a : Addr) (ns : List Int), vs = [.ref a] ∧ SqL K H a (ns.map V.int) ∧ ns.length ≤ 63 ∧ ∀ H', Q (.bl true) H'
theorem ok_end {P : Program} {w : World} {K : PySem.W.Frag} {mg : Str → Option Value} {base : Heap} (t : Tx K mg) : FnOk P w K mg base CX0 5 t.f_law t.d_law ["_law_script"] (spLaw K) :=
  (ok_law t).imp fun vs H Q E ⟨a, ns, e, hS, hl, q⟩ => by
    subst e
    refine ⟨⟨H, H, []⟩, H, [.cl (.scr ns)], fun w => w = .cl (.bl true), Same.refl _, .cons (.scr hS) .nil, ⟨ns, rfl, hl, rfl⟩, fun w hw v F' H' g r => ?_⟩
    subst hw
    cases r
    exact q H'
theorem all_mk {l : PySem.W.OpenLaw} {w : World} {K : PySem.W.Frag} {h : Heap} {mg : Str → Option Value} {fa C_Net C_Stream f0 f1 f2 f3 f4 f5 f6 f7 f8 f9 f10 f11 f12 f13 f14 f15 f16 : Addr} (X : K.In h) (G : h.Ns mainGlobals mg) (hfa : mg "law" = some (.ref fa))
    (zC_Net : PySem.W.nsIn K mainGlobals "Net" = some (some (.ref C_Net))) (pg_Net : PySem.W.plainGet K C_Net Str.empty = true) (hd_Net : PySem.W.hasDictIn K C_Net = true) (po_Net : PySem.W.plainOver K C_Net = true) (sa_Net : PySem.W.findIn K (.ref C_Net) "__setattr__" = some (some (.builtin "object.__setattr__"))) (mk_Net : PySem.W.makesIn K C_Net = true) (kc_Net : PySem.W.keepIn K (.ref C_Net) = true)
    (nf_Net_kinds : PySem.W.findIn K (.ref C_Net) "kinds" = some none)
    (nf_Net_lines : PySem.W.findIn K (.ref C_Net) "lines" = some none)
    (nf_Net_processing : PySem.W.findIn K (.ref C_Net) "processing" = some none)
    (nf_Net_error : PySem.W.findIn K (.ref C_Net) "error" = some none)
    (zC_Stream : PySem.W.nsIn K mainGlobals "Stream" = some (some (.ref C_Stream))) (pg_Stream : PySem.W.plainGet K C_Stream Str.empty = true) (hd_Stream : PySem.W.hasDictIn K C_Stream = true) (po_Stream : PySem.W.plainOver K C_Stream = true) (sa_Stream : PySem.W.findIn K (.ref C_Stream) "__setattr__" = some (some (.builtin "object.__setattr__"))) (mk_Stream : PySem.W.makesIn K C_Stream = true) (kc_Stream : PySem.W.keepIn K (.ref C_Stream) = true)
    (qa_Stream : PySem.W.findIn K (.ref C_Stream) "__class__" = some (some (.builtin "object.__class__"))) (qn_Stream : PySem.W.specialIn K (.builtin "object.__class__") "__get__" = some (some (.builtin "getset_descriptor.__get__"))) (qt_Stream : PySem.W.takesIn K (.builtin "object.__class__") = some true) (qm_Stream : PySem.W.mroIn K C_Stream (.type "object") = some true) (qe_Stream : PySem.W.isClsIn K C_Stream = true) (qy_Stream : PySem.W.typeIn K (.ref C_Stream) = some (.type "type")) (ql_Stream : PySem.W.subIn K (.type "list") (.ref C_Stream) = some false) (qi_Stream : PySem.W.subIn K (.type "int") (.ref C_Stream) = some false)
    (nf_Stream_period : PySem.W.findIn K (.ref C_Stream) "period" = some none)
    (nf_Stream_length : PySem.W.findIn K (.ref C_Stream) "length" = some none)
    (nf_Stream_deadline : PySem.W.findIn K (.ref C_Stream) "deadline" = some none)
    (nf_Stream_path : PySem.W.findIn K (.ref C_Stream) "path" = some none)
    {od0 an0 : Option Addr} {sl0 : Array (Option Value)} {oc0 kV0 dc0 pm0 cd0 ct0 : Value}
    (a0 : PySem.W.nsIn K mainGlobals "window_of" = some (some (.ref f0))) (l0 : K.lookup f0 = some ⟨oc0, od0, .func (PySem.W.fnOf "window_of" "window_of" (defArgs s_window_of) (defBody s_window_of) (defScope s_window_of) .none kV0 dc0 pm0 an0 cd0 ct0), sl0⟩) (c0 : PySem.W.codeIn K cd0 "window_of" = true) (k0 : PySem.W.keepIn K (.ref f0) = true)
    {od1 an1 : Option Addr} {sl1 : Array (Option Value)} {oc1 kV1 dc1 pm1 cd1 ct1 : Value}
    (a1 : PySem.W.findIn K (.ref C_Net) "delay" = some (some (.ref f1))) (i1 : PySem.W.isFn K (.ref f1) = true) (l1 : K.lookup f1 = some ⟨oc1, od1, .func (PySem.W.fnOf "delay" "Net.delay" (defArgs s_Net_delay) (defBody s_Net_delay) (defScope s_Net_delay) .none kV1 dc1 pm1 an1 cd1 ct1), sl1⟩) (c1 : PySem.W.codeIn K cd1 "Net.delay" = true) (k1 : PySem.W.keepIn K (.ref f1) = true)
    {od2 an2 : Option Addr} {sl2 : Array (Option Value)} {oc2 kV2 dc2 pm2 cd2 ct2 : Value}
    (a2 : PySem.W.nsIn K mainGlobals "arrival_of" = some (some (.ref f2))) (l2 : K.lookup f2 = some ⟨oc2, od2, .func (PySem.W.fnOf "arrival_of" "arrival_of" (defArgs s_arrival_of) (defBody s_arrival_of) (defScope s_arrival_of) .none kV2 dc2 pm2 an2 cd2 ct2), sl2⟩) (c2 : PySem.W.codeIn K cd2 "arrival_of" = true) (k2 : PySem.W.keepIn K (.ref f2) = true)
    {od3 an3 : Option Addr} {sl3 : Array (Option Value)} {oc3 kV3 dc3 pm3 cd3 ct3 : Value}
    (a3 : PySem.W.nsIn K mainGlobals "ports_of" = some (some (.ref f3))) (l3 : K.lookup f3 = some ⟨oc3, od3, .func (PySem.W.fnOf "ports_of" "ports_of" (defArgs s_ports_of) (defBody s_ports_of) (defScope s_ports_of) .none kV3 dc3 pm3 an3 cd3 ct3), sl3⟩) (c3 : PySem.W.codeIn K cd3 "ports_of" = true) (k3 : PySem.W.keepIn K (.ref f3) = true)
    {od4 an4 : Option Addr} {sl4 : Array (Option Value)} {oc4 kV4 dc4 pm4 cd4 ct4 : Value}
    (a4 : PySem.W.nsIn K mainGlobals "windows_at" = some (some (.ref f4))) (l4 : K.lookup f4 = some ⟨oc4, od4, .func (PySem.W.fnOf "windows_at" "windows_at" (defArgs s_windows_at) (defBody s_windows_at) (defScope s_windows_at) .none kV4 dc4 pm4 an4 cd4 ct4), sl4⟩) (c4 : PySem.W.codeIn K cd4 "windows_at" = true) (k4 : PySem.W.keepIn K (.ref f4) = true)
    {od5 an5 : Option Addr} {sl5 : Array (Option Value)} {oc5 kV5 dc5 pm5 cd5 ct5 : Value}
    (a5 : PySem.W.nsIn K mainGlobals "_law_draw" = some (some (.ref f5))) (l5 : K.lookup f5 = some ⟨oc5, od5, .func (PySem.W.fnOf "_law_draw" "_law_draw" (defArgs s__law_draw) (defBody s__law_draw) (defScope s__law_draw) .none kV5 dc5 pm5 an5 cd5 ct5), sl5⟩) (c5 : PySem.W.codeIn K cd5 "_law_draw" = true) (k5 : PySem.W.keepIn K (.ref f5) = true)
    {od6 an6 : Option Addr} {sl6 : Array (Option Value)} {oc6 kV6 dc6 pm6 cd6 ct6 : Value}
    (a6 : PySem.W.nsIn K mainGlobals "_law_cell" = some (some (.ref f6))) (l6 : K.lookup f6 = some ⟨oc6, od6, .func (PySem.W.fnOf "_law_cell" "_law_cell" (defArgs s__law_cell) (defBody s__law_cell) (defScope s__law_cell) .none kV6 dc6 pm6 an6 cd6 ct6), sl6⟩) (c6 : PySem.W.codeIn K cd6 "_law_cell" = true) (k6 : PySem.W.keepIn K (.ref f6) = true)
    {od7 an7 : Option Addr} {sl7 : Array (Option Value)} {oc7 kV7 dc7 pm7 cd7 ct7 : Value}
    (a7 : PySem.W.findIn K (.ref C_Net) "__init__" = some (some (.ref f7))) (i7 : PySem.W.isFn K (.ref f7) = true) (l7 : K.lookup f7 = some ⟨oc7, od7, .func (PySem.W.fnOf "__init__" "Net.__init__" (defArgs s_Net___init__) (defBody s_Net___init__) (defScope s_Net___init__) .none kV7 dc7 pm7 an7 cd7 ct7), sl7⟩) (c7 : PySem.W.codeIn K cd7 "Net.__init__" = true) (k7 : PySem.W.keepIn K (.ref f7) = true)
    {od8 an8 : Option Addr} {sl8 : Array (Option Value)} {oc8 kV8 dc8 pm8 cd8 ct8 : Value}
    (a8 : PySem.W.nsIn K mainGlobals "_law_net" = some (some (.ref f8))) (l8 : K.lookup f8 = some ⟨oc8, od8, .func (PySem.W.fnOf "_law_net" "_law_net" (defArgs s__law_net) (defBody s__law_net) (defScope s__law_net) .none kV8 dc8 pm8 an8 cd8 ct8), sl8⟩) (c8 : PySem.W.codeIn K cd8 "_law_net" = true) (k8 : PySem.W.keepIn K (.ref f8) = true)
    {od9 an9 : Option Addr} {sl9 : Array (Option Value)} {oc9 kV9 dc9 pm9 cd9 ct9 : Value}
    (a9 : PySem.W.nsIn K mainGlobals "_law_joined" = some (some (.ref f9))) (l9 : K.lookup f9 = some ⟨oc9, od9, .func (PySem.W.fnOf "_law_joined" "_law_joined" (defArgs s__law_joined) (defBody s__law_joined) (defScope s__law_joined) .none kV9 dc9 pm9 an9 cd9 ct9), sl9⟩) (c9 : PySem.W.codeIn K cd9 "_law_joined" = true) (k9 : PySem.W.keepIn K (.ref f9) = true)
    {od10 an10 : Option Addr} {sl10 : Array (Option Value)} {oc10 kV10 dc10 pm10 cd10 ct10 : Value}
    (a10 : PySem.W.nsIn K mainGlobals "_law_paths" = some (some (.ref f10))) (l10 : K.lookup f10 = some ⟨oc10, od10, .func (PySem.W.fnOf "_law_paths" "_law_paths" (defArgs s__law_paths) (defBody s__law_paths) (defScope s__law_paths) .none kV10 dc10 pm10 an10 cd10 ct10), sl10⟩) (c10 : PySem.W.codeIn K cd10 "_law_paths" = true) (k10 : PySem.W.keepIn K (.ref f10) = true)
    {od11 an11 : Option Addr} {sl11 : Array (Option Value)} {oc11 kV11 dc11 pm11 cd11 ct11 : Value}
    (a11 : PySem.W.nsIn K mainGlobals "_law_ready" = some (some (.ref f11))) (l11 : K.lookup f11 = some ⟨oc11, od11, .func (PySem.W.fnOf "_law_ready" "_law_ready" (defArgs s__law_ready) (defBody s__law_ready) (defScope s__law_ready) .none kV11 dc11 pm11 an11 cd11 ct11), sl11⟩) (c11 : PySem.W.codeIn K cd11 "_law_ready" = true) (k11 : PySem.W.keepIn K (.ref f11) = true)
    {od12 an12 : Option Addr} {sl12 : Array (Option Value)} {oc12 kV12 dc12 pm12 cd12 ct12 : Value}
    (a12 : PySem.W.findIn K (.ref C_Stream) "__init__" = some (some (.ref f12))) (i12 : PySem.W.isFn K (.ref f12) = true) (l12 : K.lookup f12 = some ⟨oc12, od12, .func (PySem.W.fnOf "__init__" "Stream.__init__" (defArgs s_Stream___init__) (defBody s_Stream___init__) (defScope s_Stream___init__) .none kV12 dc12 pm12 an12 cd12 ct12), sl12⟩) (c12 : PySem.W.codeIn K cd12 "Stream.__init__" = true) (k12 : PySem.W.keepIn K (.ref f12) = true)
    {od13 an13 : Option Addr} {sl13 : Array (Option Value)} {oc13 kV13 dc13 pm13 cd13 ct13 : Value}
    (a13 : PySem.W.nsIn K mainGlobals "_law_entry" = some (some (.ref f13))) (l13 : K.lookup f13 = some ⟨oc13, od13, .func (PySem.W.fnOf "_law_entry" "_law_entry" (defArgs s__law_entry) (defBody s__law_entry) (defScope s__law_entry) .none kV13 dc13 pm13 an13 cd13 ct13), sl13⟩) (c13 : PySem.W.codeIn K cd13 "_law_entry" = true) (k13 : PySem.W.keepIn K (.ref f13) = true)
    {od14 an14 : Option Addr} {sl14 : Array (Option Value)} {oc14 kV14 dc14 pm14 cd14 ct14 : Value}
    (a14 : PySem.W.findIn K (.ref C_Stream) "__eq__" = some (some (.ref f14))) (i14 : PySem.W.isFn K (.ref f14) = true) (l14 : K.lookup f14 = some ⟨oc14, od14, .func (PySem.W.fnOf "__eq__" "Stream.__eq__" (defArgs s_Stream___eq__) (defBody s_Stream___eq__) (defScope s_Stream___eq__) .none kV14 dc14 pm14 an14 cd14 ct14), sl14⟩) (c14 : PySem.W.codeIn K cd14 "Stream.__eq__" = true) (k14 : PySem.W.keepIn K (.ref f14) = true)
    {od15 an15 : Option Addr} {sl15 : Array (Option Value)} {oc15 kV15 dc15 pm15 cd15 ct15 : Value}
    (a15 : PySem.W.nsIn K mainGlobals "_law_stream_holds" = some (some (.ref f15))) (l15 : K.lookup f15 = some ⟨oc15, od15, .func (PySem.W.fnOf "_law_stream_holds" "_law_stream_holds" (defArgs s__law_stream_holds) (defBody s__law_stream_holds) (defScope s__law_stream_holds) .none kV15 dc15 pm15 an15 cd15 ct15), sl15⟩) (c15 : PySem.W.codeIn K cd15 "_law_stream_holds" = true) (k15 : PySem.W.keepIn K (.ref f15) = true)
    {od16 an16 : Option Addr} {sl16 : Array (Option Value)} {oc16 kV16 dc16 pm16 cd16 ct16 : Value}
    (a16 : PySem.W.nsIn K mainGlobals "law" = some (some (.ref f16))) (l16 : K.lookup f16 = some ⟨oc16, od16, .func (PySem.W.fnOf "law" "law" (defArgs s_law) (defBody s_law) (defScope s_law) .none kV16 dc16 pm16 an16 cd16 ct16), sl16⟩) (c16 : PySem.W.codeIn K cd16 "law" = true) (k16 : PySem.W.keepIn K (.ref f16) = true)
    (n_int : PySem.W.nsIn K mainGlobals "int" = some none)
    (n_isinstance : PySem.W.nsIn K mainGlobals "isinstance" = some none)
    (n_len : PySem.W.nsIn K mainGlobals "len" = some none)
    (n_list : PySem.W.nsIn K mainGlobals "list" = some none)
    (n_max : PySem.W.nsIn K mainGlobals "max" = some none)
    (n_range : PySem.W.nsIn K mainGlobals "range" = some none) :
    ∃ fd : FuncData, (∀ (s : Shared) (v : Value), BindsTo s fd ⟨[v], []⟩ [("_law_script", v)]) ∧ ∀ base : Heap, K.In base → base.Ns mainGlobals mg → FnOk l.prog w K mg base CX0 5 fa fd ["_law_script"] (spLaw K) := by
  have e := hfa.symm.trans (PySem.W.mg_of X G a16)
  cases e
  let t : Tx K mg := {
    C_Net := _
    cl_Net := ⟨pg_Net, hd_Net, po_Net, sa_Net⟩
    n_Net_kinds := nf_Net_kinds
    n_Net_lines := nf_Net_lines
    n_Net_processing := nf_Net_processing
    n_Net_error := nf_Net_error
    C_Stream := _
    cl_Stream := ⟨pg_Stream, hd_Stream, po_Stream, sa_Stream⟩
    n_Stream_period := nf_Stream_period
    n_Stream_length := nf_Stream_length
    n_Stream_deadline := nf_Stream_deadline
    n_Stream_path := nf_Stream_path
    is_Stream := is_mk ⟨pg_Stream, hd_Stream, po_Stream, sa_Stream⟩ qa_Stream qn_Stream qt_Stream qm_Stream qe_Stream qy_Stream ql_Stream qi_Stream
    eo_Stream := ⟨⟨⟨pg_Stream, hd_Stream, po_Stream, sa_Stream⟩, qa_Stream, qn_Stream, qt_Stream, qm_Stream, kit_me⟩, ql_Stream, qi_Stream⟩
    f_window_of := f0
    d_window_of := _
    F_window_of := fun_mk (st := s_window_of) l0 c0 k0
    b_window_of := (fun_mk (st := s_window_of) l0 c0 k0).binds (ps := ["entry", "hop"]) (fun _ _ _ _ _ _ us hl => match us, hl with | [_, _], _ => rfl)
    m_window_of := PySem.W.mg_of X G a0
    f_Net_delay := f1
    d_Net_delay := _
    F_Net_delay := fun_mk (st := s_Net_delay) l1 c1 k1
    b_Net_delay := (fun_mk (st := s_Net_delay) l1 c1 k1).binds (ps := ["self", "a", "b"]) (fun _ _ _ _ _ _ us hl => match us, hl with | [_, _, _], _ => rfl)
    mt_Net_delay := ⟨a1, i1, k1⟩
    f_arrival_of := f2
    d_arrival_of := _
    F_arrival_of := fun_mk (st := s_arrival_of) l2 c2 k2
    b_arrival_of := (fun_mk (st := s_arrival_of) l2 c2 k2).binds (ps := ["net", "entry", "hop"]) (fun _ _ _ _ _ _ us hl => match us, hl with | [_, _, _], _ => rfl)
    m_arrival_of := PySem.W.mg_of X G a2
    f_ports_of := f3
    d_ports_of := _
    F_ports_of := fun_mk (st := s_ports_of) l3 c3 k3
    b_ports_of := (fun_mk (st := s_ports_of) l3 c3 k3).binds (ps := ["path"]) (fun _ _ _ _ _ _ us hl => match us, hl with | [_], _ => rfl)
    m_ports_of := PySem.W.mg_of X G a3
    f_windows_at := f4
    d_windows_at := _
    F_windows_at := fun_mk (st := s_windows_at) l4 c4 k4
    b_windows_at := (fun_mk (st := s_windows_at) l4 c4 k4).binds (ps := ["plan", "port"]) (fun _ _ _ _ _ _ us hl => match us, hl with | [_, _], _ => rfl)
    m_windows_at := PySem.W.mg_of X G a4
    f__law_draw := f5
    d__law_draw := _
    F__law_draw := fun_mk (st := s__law_draw) l5 c5 k5
    b__law_draw := (fun_mk (st := s__law_draw) l5 c5 k5).binds (ps := ["_law_cell_here", "_law_many", "_law_bound"]) (fun _ _ _ _ _ _ us hl => match us, hl with | [_, _, _], _ => rfl)
    m__law_draw := PySem.W.mg_of X G a5
    f__law_cell := f6
    d__law_cell := _
    F__law_cell := fun_mk (st := s__law_cell) l6 c6 k6
    b__law_cell := (fun_mk (st := s__law_cell) l6 c6 k6).binds (ps := ["_law_script", "_law_k"]) (fun _ _ _ _ _ _ us hl => match us, hl with | [_, _], _ => rfl)
    m__law_cell := PySem.W.mg_of X G a6
    f_Net___init__ := f7
    d_Net___init__ := _
    F_Net___init__ := fun_mk (st := s_Net___init__) l7 c7 k7
    kb_Net___init__ := kb_mk (fun_mk (st := s_Net___init__) l7 c7 k7) fun _ _ _ _ _ _ us ws h1 h2 => match us, ws, h1, h2 with | [_, _, _], [_, _], _, _ => rfl
    mk_Net := ⟨mk_Net, a7, i7, kc_Net⟩
    mC_Net := PySem.W.mg_of X G zC_Net
    f__law_net := f8
    d__law_net := _
    F__law_net := fun_mk (st := s__law_net) l8 c8 k8
    b__law_net := (fun_mk (st := s__law_net) l8 c8 k8).binds (ps := ["_law_cell_here", "_law_more"]) (fun _ _ _ _ _ _ us hl => match us, hl with | [_, _], _ => rfl)
    m__law_net := PySem.W.mg_of X G a8
    f__law_joined := f9
    d__law_joined := _
    F__law_joined := fun_mk (st := s__law_joined) l9 c9 k9
    b__law_joined := (fun_mk (st := s__law_joined) l9 c9 k9).binds (ps := ["_law_net_here", "_law_a", "_law_b"]) (fun _ _ _ _ _ _ us hl => match us, hl with | [_, _, _], _ => rfl)
    m__law_joined := PySem.W.mg_of X G a9
    f__law_paths := f10
    d__law_paths := _
    F__law_paths := fun_mk (st := s__law_paths) l10 c10 k10
    b__law_paths := (fun_mk (st := s__law_paths) l10 c10 k10).binds (ps := ["_law_net_here", "_law_most"]) (fun _ _ _ _ _ _ us hl => match us, hl with | [_, _], _ => rfl)
    m__law_paths := PySem.W.mg_of X G a10
    f__law_ready := f11
    d__law_ready := _
    F__law_ready := fun_mk (st := s__law_ready) l11 c11 k11
    b__law_ready := (fun_mk (st := s__law_ready) l11 c11 k11).binds (ps := ["_law_net_here", "_law_stream", "_law_offsets"]) (fun _ _ _ _ _ _ us hl => match us, hl with | [_, _, _], _ => rfl)
    m__law_ready := PySem.W.mg_of X G a11
    f_Stream___init__ := f12
    d_Stream___init__ := _
    F_Stream___init__ := fun_mk (st := s_Stream___init__) l12 c12 k12
    b_Stream___init__ := (fun_mk (st := s_Stream___init__) l12 c12 k12).binds (ps := ["self", "period", "length", "deadline", "path"]) (fun _ _ _ _ _ _ us hl => match us, hl with | [_, _, _, _, _], _ => rfl)
    mk_Stream := ⟨mk_Stream, a12, i12, kc_Stream⟩
    mC_Stream := PySem.W.mg_of X G zC_Stream
    f__law_entry := f13
    d__law_entry := _
    F__law_entry := fun_mk (st := s__law_entry) l13 c13 k13
    b__law_entry := (fun_mk (st := s__law_entry) l13 c13 k13).binds (ps := ["_law_net_here", "_law_paths_here", "_law_cell_here", "_law_tight"]) (fun _ _ _ _ _ _ us hl => match us, hl with | [_, _, _, _], _ => rfl)
    m__law_entry := PySem.W.mg_of X G a13
    f_Stream___eq__ := f14
    d_Stream___eq__ := _
    F_Stream___eq__ := fun_mk (st := s_Stream___eq__) l14 c14 k14
    b_Stream___eq__ := (fun_mk (st := s_Stream___eq__) l14 c14 k14).binds (ps := ["self", "other"]) (fun _ _ _ _ _ _ us hl => match us, hl with | [_, _], _ => rfl)
    mt_Stream___eq__ := ⟨a14, i14, k14⟩
    f__law_stream_holds := f15
    d__law_stream_holds := _
    F__law_stream_holds := fun_mk (st := s__law_stream_holds) l15 c15 k15
    b__law_stream_holds := (fun_mk (st := s__law_stream_holds) l15 c15 k15).binds (ps := ["_law_stream", "_law_numbers"]) (fun _ _ _ _ _ _ us hl => match us, hl with | [_, _], _ => rfl)
    m__law_stream_holds := PySem.W.mg_of X G a15
    f_law := _
    d_law := _
    F_law := fun_mk (st := s_law) l16 c16 k16
    b_law := (fun_mk (st := s_law) l16 c16 k16).binds (ps := ["_law_script"]) (fun _ _ _ _ _ _ us hl => match us, hl with | [_], _ => rfl)
    m_law := PySem.W.mg_of X G a16
    n_int := PySem.W.mg_none_of X G n_int
    n_isinstance := PySem.W.mg_none_of X G n_isinstance
    n_len := PySem.W.mg_none_of X G n_len
    n_list := PySem.W.mg_none_of X G n_list
    n_max := PySem.W.mg_none_of X G n_max
    n_range := PySem.W.mg_none_of X G n_range }
  exact ⟨t.d_law, fun s v => .of_eq rfl, fun base _ _ => ok_end t⟩
end Vl
open PySem PySem.W PyProof.Rows
set_option maxHeartbeats 0 in
theorem PySem.Challenge.cw_metronet_k06_entries_of_plans_holds : PySem.Challenge.rw_metronet_k06_entries_of_plans.Holds := by
  w_on; o_law; k_head; (case hw => w_witness2)
  k_fill
  refine L2.walk_of (l := PySem.Challenge.rw_metronet_k06_entries_of_plans) (n := 63) (k := 5) (x := "_law_script") (CX := fun _ => L2.CX0) (sp := fun w => Vl.spLaw _) rfl (by decide) rfl ⟨rfl, by decide, by decide⟩ (fun w h Y => PySem.W.kIn_of Y) ?F (fun _ _ a ns hl _ hS => ⟨a, ns, rfl, hS, hl, fun _ => rfl⟩) (fun _ _ _ _ _ h => h)
  case F =>
    intro w mg fa h KX G hmg
    refine' Vl.all_mk KX G hmg ?zC_Net ?pg_Net ?hd_Net ?po_Net ?sa_Net ?mk_Net ?kc_Net ?nf_Net_kinds ?nf_Net_lines ?nf_Net_processing ?nf_Net_error ?zC_Stream ?pg_Stream ?hd_Stream ?po_Stream ?sa_Stream ?mk_Stream ?kc_Stream ?qa_Stream ?qn_Stream ?qt_Stream ?qm_Stream ?qe_Stream ?qy_Stream ?ql_Stream ?qi_Stream ?nf_Stream_period ?nf_Stream_length ?nf_Stream_deadline ?nf_Stream_path ?a0 ?l0 ?c0 ?k0 ?a1 ?i1 ?l1 ?c1 ?k1 ?a2 ?l2 ?c2 ?k2 ?a3 ?l3 ?c3 ?k3 ?a4 ?l4 ?c4 ?k4 ?a5 ?l5 ?c5 ?k5 ?a6 ?l6 ?c6 ?k6 ?a7 ?i7 ?l7 ?c7 ?k7 ?a8 ?l8 ?c8 ?k8 ?a9 ?l9 ?c9 ?k9 ?a10 ?l10 ?c10 ?k10 ?a11 ?l11 ?c11 ?k11 ?a12 ?i12 ?l12 ?c12 ?k12 ?a13 ?l13 ?c13 ?k13 ?a14 ?i14 ?l14 ?c14 ?k14 ?a15 ?l15 ?c15 ?k15 ?a16 ?l16 ?c16 ?k16 ?n_int ?n_isinstance ?n_len ?n_list ?n_max ?n_range
    (case zC_Net => k_is)
    (case pg_Net => k_is)
    (case hd_Net => k_is)
    (case po_Net => k_is)
    (case sa_Net => k_is)
    (case mk_Net => k_is)
    (case kc_Net => k_is)
    (case nf_Net_kinds => k_is)
    (case nf_Net_lines => k_is)
    (case nf_Net_processing => k_is)
    (case nf_Net_error => k_is)
    (case zC_Stream => k_is)
    (case pg_Stream => k_is)
    (case hd_Stream => k_is)
    (case po_Stream => k_is)
    (case sa_Stream => k_is)
    (case mk_Stream => k_is)
    (case kc_Stream => k_is)
    (case qa_Stream => k_is)
    (case qn_Stream => k_is)
    (case qt_Stream => k_is)
    (case qm_Stream => k_is)
    (case qe_Stream => k_is)
    (case qy_Stream => k_is)
    (case ql_Stream => k_is)
    (case qi_Stream => k_is)
    (case nf_Stream_period => k_is)
    (case nf_Stream_length => k_is)
    (case nf_Stream_deadline => k_is)
    (case nf_Stream_path => k_is)
    (case a0 => k_is)
    (case l0 => k_is)
    (case c0 => k_is)
    (case k0 => k_is)
    (case a1 => k_is)
    (case i1 => k_is)
    (case l1 => k_is)
    (case c1 => k_is)
    (case k1 => k_is)
    (case a2 => k_is)
    (case l2 => k_is)
    (case c2 => k_is)
    (case k2 => k_is)
    (case a3 => k_is)
    (case l3 => k_is)
    (case c3 => k_is)
    (case k3 => k_is)
    (case a4 => k_is)
    (case l4 => k_is)
    (case c4 => k_is)
    (case k4 => k_is)
    (case a5 => k_is)
    (case l5 => k_is)
    (case c5 => k_is)
    (case k5 => k_is)
    (case a6 => k_is)
    (case l6 => k_is)
    (case c6 => k_is)
    (case k6 => k_is)
    (case a7 => k_is)
    (case i7 => k_is)
    (case l7 => k_is)
    (case c7 => k_is)
    (case k7 => k_is)
    (case a8 => k_is)
    (case l8 => k_is)
    (case c8 => k_is)
    (case k8 => k_is)
    (case a9 => k_is)
    (case l9 => k_is)
    (case c9 => k_is)
    (case k9 => k_is)
    (case a10 => k_is)
    (case l10 => k_is)
    (case c10 => k_is)
    (case k10 => k_is)
    (case a11 => k_is)
    (case l11 => k_is)
    (case c11 => k_is)
    (case k11 => k_is)
    (case a12 => k_is)
    (case i12 => k_is)
    (case l12 => k_is)
    (case c12 => k_is)
    (case k12 => k_is)
    (case a13 => k_is)
    (case l13 => k_is)
    (case c13 => k_is)
    (case k13 => k_is)
    (case a14 => k_is)
    (case i14 => k_is)
    (case l14 => k_is)
    (case c14 => k_is)
    (case k14 => k_is)
    (case a15 => k_is)
    (case l15 => k_is)
    (case c15 => k_is)
    (case k15 => k_is)
    (case a16 => k_is)
    (case l16 => k_is)
    (case c16 => k_is)
    (case k16 => k_is)
    (case n_int => k_is)
    (case n_isinstance => k_is)
    (case n_len => k_is)
    (case n_list => k_is)
    (case n_max => k_is)
    (case n_range => k_is)
