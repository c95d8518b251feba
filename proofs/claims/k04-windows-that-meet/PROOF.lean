import PyProof.Rows.All
import Wide.All
import OpenK.AllK
import Wide.FinOn
import HandS.ForMost
import HandS.Walk
import HandS.Gcd
import HandS.Wide
import HandS.Deep
import HandS.IsInst
import HandS.Comp
import KE.KMathG
import PySem.Challenge.RW_metronet_k04_windows_that_meet
set_option Elab.async false
set_option linter.all false
set_option maxRecDepth 100000
set_option maxHeartbeats 4000000
/-! A layer of plain data over HandS: what a def computes is told over data (D) with no heap in sight. -/
namespace Vl
open PySem PySem.Spec PyProof.Rows L2

/-! ### data -/
inductive D where
  | non | bl (b : Bool) | int (i : Int) | str (x : Str)
  | tup (ds : List D) | lst (ds : List D) | ins (c : Nat) (ds : List D) | dct (ks ds : List D)
  /-- the script: read, never written -/
  | scr (ns : List Int)

/-- the text's classes by number: where a class stands, its fields in their order -/
structure Tb where
  K : PySem.W.Frag
  cl : Nat → Addr
  fs : Nat → List Str

def keyD : Key → D
  | .inl i => .int i
  | .inr x => .str x

theorem Same.seqT {K : PySem.W.Frag} {H H' : Hp} {a : Addr} {xs : List V} (e : Same H H') (h : SqT K H a xs) : SqT K H' a xs := by
  rcases h with (h | ⟨o, h⟩) | h
  · exact .inl (.inl (e _ _ h))
  · exact .inl (.inr ⟨o, e _ _ h⟩)
  · exact .inr h

mutual
/-- v stands for d, by what the heap F holds -/
inductive Rep (T : Tb) (F : Hp) : V → D → Prop
  | non : Rep T F .non .non
  | bl (b : Bool) : Rep T F (.bl b) (.bl b)
  | int (i : Int) : Rep T F (.int i) (.int i)
  | str (x : Str) : Rep T F (.str x) (.str x)
  | tup {a : Addr} {vs : List V} {ds : List D} : F a = some (.tup vs) → Reps T F vs ds → Rep T F (.ref a) (.tup ds)
  | lst {a : Addr} {vs : List V} {ds : List D} : F a = some (.lst vs) → Reps T F vs ds → Rep T F (.ref a) (.lst ds)
  | scr {a : Addr} {ns : List Int} : SqL T.K F a (ns.map V.int) → Rep T F (.ref a) (.scr ns)
  | ins {a dx : Addr} {c : Nat} {vs : List V} {ds : List D} : F a = some (.ins (T.cl c) dx ((T.fs c).zip vs)) → (T.fs c).length = vs.length → Reps T F vs ds → Rep T F (.ref a) (.ins c ds)
  | dK {a : Addr} {kvs : List (Key × V)} {ks ds : List D} : F a = some (.dK kvs) → ks = kvs.map (fun p => keyD p.1) → Reps T F (kvs.map (·.2)) ds → Rep T F (.ref a) (.dct ks ds)
  | dT {a : Addr} {kvs : List (List Key × V)} {ks ds : List D} : F a = some (.dT kvs) → ks = kvs.map (fun p => .tup (p.1.map keyD)) → Reps T F (kvs.map (·.2)) ds → Rep T F (.ref a) (.dct ks ds)
inductive Reps (T : Tb) (F : Hp) : List V → List D → Prop
  | nil : Reps T F [] []
  | cons {v : V} {vs : List V} {d : D} {ds : List D} : Rep T F v d → Reps T F vs ds → Reps T F (v :: vs) (d :: ds)
end

section
variable {T : Tb} {F F' H H' : Hp}
mutual
theorem Rep.mono (e : Same F F') : ∀ {v : V} {d : D}, Rep T F v d → Rep T F' v d
  | _, _, .non => .non
  | _, _, .bl b => .bl b
  | _, _, .int i => .int i
  | _, _, .str x => .str x
  | _, _, .tup h r => .tup (e _ _ h) (Reps.mono e r)
  | _, _, .lst h r => .lst (e _ _ h) (Reps.mono e r)
  | _, _, .scr h => .scr (e.seq h)
  | _, _, .ins h l r => .ins (e _ _ h) l (Reps.mono e r)
  | _, _, .dK h l r => .dK (e _ _ h) l (Reps.mono e r)
  | _, _, .dT h l r => .dT (e _ _ h) l (Reps.mono e r)
theorem Reps.mono (e : Same F F') : ∀ {vs : List V} {ds : List D}, Reps T F vs ds → Reps T F' vs ds
  | _, _, .nil => .nil
  | _, _, .cons h r => .cons (Rep.mono e h) (Reps.mono e r)
end
theorem Reps.length : ∀ {vs : List V} {ds : List D}, Reps T F vs ds → vs.length = ds.length
  | _, _, .nil => rfl
  | _, _, .cons _ r => by simp [Reps.length r]
theorem Reps.get : ∀ {vs : List V} {ds : List D} {i : Nat} {v : V}, Reps T F vs ds → vs[i]? = some v → ∃ d, ds[i]? = some d ∧ Rep T F v d
  | _, _, _, _, .nil, h => by simp at h
  | _, _, 0, _, .cons r _, h => by simp at h; subst h; exact ⟨_, rfl, r⟩
  | _, _, i + 1, _, .cons _ r, h => by simpa using Reps.get (i := i) r (by simpa using h)
theorem Reps.getD : ∀ {vs : List V} {ds : List D} {i : Nat} {d : D}, Reps T F vs ds → ds[i]? = some d → ∃ v, vs[i]? = some v ∧ Rep T F v d
  | _, _, _, _, .nil, h => by simp at h
  | _, _, 0, _, .cons r _, h => by simp at h; subst h; exact ⟨_, rfl, r⟩
  | _, _, i + 1, _, .cons _ r, h => by simpa using Reps.getD (i := i) r (by simpa using h)
theorem Reps.append : ∀ {vs ws : List V} {ds es : List D}, Reps T F vs ds → Reps T F ws es → Reps T F (vs ++ ws) (ds ++ es)
  | _, _, _, _, .nil, s => s
  | _, _, _, _, .cons r t, s => .cons r (Reps.append t s)
theorem Reps.snoc {vs : List V} {ds : List D} {v : V} {d : D} (r : Reps T F vs ds) (h : Rep T F v d) : Reps T F (vs ++ [v]) (ds ++ [d]) := r.append (.cons h .nil)
theorem Reps.take : ∀ {vs : List V} {ds : List D} (n : Nat), Reps T F vs ds → Reps T F (vs.take n) (ds.take n)
  | _, _, 0, _ => .nil
  | _, _, n + 1, .nil => .nil
  | _, _, n + 1, .cons r t => .cons r (Reps.take n t)
theorem Reps.drop : ∀ {vs : List V} {ds : List D} (n : Nat), Reps T F vs ds → Reps T F (vs.drop n) (ds.drop n)
  | _, _, 0, r => r
  | _, _, n + 1, .nil => .nil
  | _, _, n + 1, .cons _ t => Reps.drop n t
theorem Reps.set : ∀ {vs : List V} {ds : List D} {v : V} {d : D} (n : Nat), Reps T F vs ds → Rep T F v d → Reps T F (vs.set n v) (ds.set n d)
  | _, _, _, _, _, .nil, _ => .nil
  | _, _, _, _, 0, .cons _ t, h => .cons h t
  | _, _, _, _, n + 1, .cons r t, h => .cons r (Reps.set n t h)
theorem Reps.eraseIdx : ∀ {vs : List V} {ds : List D} (n : Nat), Reps T F vs ds → Reps T F (vs.eraseIdx n) (ds.eraseIdx n)
  | _, _, _, .nil => .nil
  | _, _, 0, .cons _ t => t
  | _, _, n + 1, .cons r t => .cons r (Reps.eraseIdx n t)
theorem Reps.dropLast : ∀ {vs : List V} {ds : List D}, Reps T F vs ds → Reps T F vs.dropLast ds.dropLast
  | _, _, .nil => .nil
  | _, _, .cons r .nil => .nil
  | _, _, .cons r (.cons q t) => .cons r (Reps.dropLast (.cons q t))
theorem Reps.reverse : ∀ {vs : List V} {ds : List D}, Reps T F vs ds → Reps T F vs.reverse ds.reverse
  | _, _, .nil => .nil
  | _, _, .cons r t => by
    rw [List.reverse_cons, List.reverse_cons]
    exact (Reps.reverse t).snoc r
theorem Reps.replicate {vs : List V} {ds : List D} (r : Reps T F vs ds) : ∀ n : Nat, Reps T F (List.replicate n vs).flatten (List.replicate n ds).flatten
  | 0 => .nil
  | n + 1 => by
    rw [List.replicate_succ, List.replicate_succ, List.flatten_cons, List.flatten_cons]
    exact r.append (Reps.replicate r n)
theorem rep_int {v : V} {i : Int} (h : Rep T F v (.int i)) : v = .int i := by cases h; rfl
theorem rep_bl {v : V} {i : Bool} (h : Rep T F v (.bl i)) : v = .bl i := by cases h; rfl
theorem rep_str {v : V} {i : Str} (h : Rep T F v (.str i)) : v = .str i := by cases h; rfl
theorem rep_non {v : V} (h : Rep T F v .non) : v = .non := by cases h; rfl
theorem rep_tup {v : V} {ds : List D} (h : Rep T F v (.tup ds)) : ∃ a vs, v = .ref a ∧ F a = some (.tup vs) ∧ Reps T F vs ds := by
  cases h with
  | tup h r => exact ⟨_, _, rfl, h, r⟩
theorem rep_lst {v : V} {ds : List D} (h : Rep T F v (.lst ds)) : ∃ a vs, v = .ref a ∧ F a = some (.lst vs) ∧ Reps T F vs ds := by
  cases h with
  | lst h r => exact ⟨_, _, rfl, h, r⟩
theorem rep_ins {v : V} {c : Nat} {ds : List D} (h : Rep T F v (.ins c ds)) : ∃ a dx vs, v = .ref a ∧ F a = some (.ins (T.cl c) dx ((T.fs c).zip vs)) ∧ (T.fs c).length = vs.length ∧ Reps T F vs ds := by
  cases h with
  | ins h l r => exact ⟨_, _, _, rfl, h, l, r⟩
theorem reps_ints : ∀ {vs : List V} {ns : List Int}, Reps T F vs (ns.map D.int) → vs = ns.map V.int
  | _, [], .nil => rfl
  | _, n :: ns, .cons r t => by rw [rep_int r, reps_ints t]; rfl
theorem reps_of_ints : ∀ ns : List Int, Reps T F (ns.map V.int) (ns.map D.int)
  | [] => .nil
  | n :: ns => .cons (.int n) (reps_of_ints ns)
end

/-! ### what is owned: it may be changed -/
inductive M where
  | fl (ds : List D) | fd (ks ds : List D)
def M.toD : M → D
  | .fl ds => .lst ds
  | .fd ks ds => .dct ks ds
def MObj (T : Tb) (F : Hp) (m : M) (o : HO) : Prop := match m with
  | .fl ds => ∃ vs, o = .lst vs ∧ Reps T F vs ds
  | .fd ks ds => (∃ kvs : List (Key × V), o = .dK kvs ∧ ks = kvs.map (fun p => keyD p.1) ∧ Reps T F (kvs.map (·.2)) ds) ∨ (∃ kvs : List (List Key × V), o = .dT kvs ∧ ks = kvs.map (fun p => .tup (p.1.map keyD)) ∧ Reps T F (kvs.map (·.2)) ds)
structure Own (T : Tb) (F H : Hp) (p : Addr) (m : M) : Prop where
  fn : F p = none
  ob : ∃ o, H p = some o ∧ MObj T F m o
/-- a value that an expression hands on: clean data; a borrowed or an own object seen; a new object that nobody else has -/
inductive W where
  | cl (d : D) | bw (m : M) | ow (m : M) | fr (m : M)
def W.toD : W → D
  | .cl d => d
  | .bw m => m.toD
  | .ow m => m.toD
  | .fr m => m.toD
/-- a slot -/
inductive AV where
  | non | im (d : D) | bw (m : M) | ow (l : Bool) (m : M)

structure Gx where
  H0 : Hp
  F0 : Hp
  L : List Addr

section
variable (T : Tb)
def RepW (G : Gx) (Hs F H : Hp) (v : V) : W → Prop
  | .cl d => Rep T F v d
  | .bw m => ∃ p, v = .ref p ∧ p ∉ G.L ∧ G.H0 p ≠ none ∧ Own T F H p m
  | .ow m => ∃ p, v = .ref p ∧ Own T F H p m
  | .fr m => ∃ p, v = .ref p ∧ Hs p = none ∧ Own T F H p m
def SlotOk (G : Gx) (F H : Hp) (o : Option V) : AV → Prop
  | .non => True
  | .im d => ∃ v, o = some v ∧ Rep T F v d
  | .bw m => ∃ p, o = some (.ref p) ∧ p ∉ G.L ∧ G.H0 p ≠ none ∧ Own T F H p m
  | .ow l m => ∃ p, o = some (.ref p) ∧ (if l = true then p ∈ G.L else G.H0 p = none) ∧ Own T F H p m
def gs (σ : L2.St) (i : Nat) : Option V := σ.getD i none
def gt (δ : List AV) (i : Nat) : AV := δ.getD i .non
structure RepS (G : Gx) (F H : Hp) (σ : L2.St) (δ : List AV) : Prop where
  ex : Same F H
  fr : ∀ a o, G.H0 a = some o → a ∉ G.L → H a = some o
  th : ∀ a, G.H0 a ≠ none → H a ≠ none
  lh : ∀ a, a ∈ G.L → G.H0 a ≠ none
  f0 : Same G.F0 F
  fn : ∀ a, G.H0 a ≠ none → F a = G.F0 a
  len : δ.length = σ.length
  sl : ∀ i, SlotOk T G F H (gs σ i) (gt δ i)
  dj : ∀ i j l l' m m', gt δ i = .ow l m → gt δ j = .ow l' m' → gs σ i = gs σ j → i = j
end
/-- the heap has grown, and of it the clean part F -/
structure Go (F H F' H' : Hp) : Prop where
  h : Same H H'
  f : Same F F'
  ex : Same F' H'
  n : ∀ a, H a ≠ none → F' a = F a
section
variable {T : Tb} {G : Gx} {F F' F2 H H' H2 Hs : Hp} {σ : L2.St} {δ : List AV} {v : V} {w : W} {m : M} {p : Addr}
theorem Go.refl (e : Same F H) : Go F H F H := ⟨Same.refl _, Same.refl _, e, fun _ _ => rfl⟩
theorem Same.nn (e : Same H H') {a : Addr} (h : H a ≠ none) : H' a ≠ none := fun q => h (e.free q)
theorem Go.trans (a : Go F H F' H') (b : Go F' H' F2 H2) : Go F H F2 H2 :=
  ⟨a.h.trans b.h, a.f.trans b.f, b.ex, fun x hx => (b.n x (Same.nn a.h hx)).trans (a.n x hx)⟩
theorem MObj.mono {o : HO} (e : Same F F') : ∀ {m : M}, MObj T F m o → MObj T F' m o
  | .fl ds, ⟨vs, h, r⟩ => ⟨vs, h, r.mono e⟩
  | .fd ks ds, .inl ⟨kvs, h, k, r⟩ => .inl ⟨kvs, h, k, r.mono e⟩
  | .fd ks ds, .inr ⟨kvs, h, k, r⟩ => .inr ⟨kvs, h, k, r.mono e⟩
theorem Own.go (g : Go F H F' H') (h : Own T F H p m) : Own T F' H' p m := by
  obtain ⟨o, e, r⟩ := h.ob
  exact ⟨by rw [g.n p (by rw [e]; simp), h.fn], o, g.h _ _ e, r.mono g.f⟩
theorem MObj.rep {o : HO} (h : F p = some o) : ∀ {m : M}, MObj T F m o → Rep T F (.ref p) m.toD
  | .fl ds, ⟨vs, e, r⟩ => .lst (e ▸ h) r
  | .fd ks ds, .inl ⟨kvs, e, k, r⟩ => .dK (e ▸ h) k r
  | .fd ks ds, .inr ⟨kvs, e, k, r⟩ => .dT (e ▸ h) k r
/-- what is owned, seen -/
theorem Own.rep (e : Same F H) (h : Own T F H p m) : Rep T H (.ref p) m.toD := by
  obtain ⟨o, q, r⟩ := h.ob
  exact (r.mono e).rep q
theorem RepW.go (g : Go F H F' H') : ∀ {w : W}, RepW T G Hs F H v w → RepW T G Hs F' H' v w
  | .cl d, h => Rep.mono g.f h
  | .bw m, ⟨p, e, a, b, h⟩ => ⟨p, e, a, b, h.go g⟩
  | .ow m, ⟨p, e, h⟩ => ⟨p, e, h.go g⟩
  | .fr m, ⟨p, e, a, h⟩ => ⟨p, e, a, h.go g⟩
/-- seen from an earlier heap -/
theorem RepW.back (e : Same H2 Hs) : ∀ {w : W}, RepW T G Hs F H v w → RepW T G H2 F H v w
  | .cl d, h => h
  | .bw m, h => h
  | .ow m, h => h
  | .fr m, ⟨p, q, a, h⟩ => ⟨p, q, e.free a, h⟩
theorem RepW.rep (e : Same F H) : ∀ {w : W}, RepW T G Hs F H v w → Rep T H v w.toD
  | .cl d, h => Rep.mono e h
  | .bw m, ⟨p, q, _, _, h⟩ => q ▸ h.rep e
  | .ow m, ⟨p, q, h⟩ => q ▸ h.rep e
  | .fr m, ⟨p, q, _, h⟩ => q ▸ h.rep e
theorem SlotOk.go {o : Option V} (g : Go F H F' H') : ∀ {a : AV}, SlotOk T G F H o a → SlotOk T G F' H' o a
  | .non, _ => trivial
  | .im d, ⟨v, e, h⟩ => ⟨v, e, Rep.mono g.f h⟩
  | .bw m, ⟨p, e, a, b, h⟩ => ⟨p, e, a, b, h.go g⟩
  | .ow l m, ⟨p, e, a, h⟩ => ⟨p, e, a, h.go g⟩
theorem RepS.go (R : RepS T G F H σ δ) (g : Go F H F' H') : RepS T G F' H' σ δ where
  ex := g.ex
  fr := fun a o h n => g.h _ _ (R.fr a o h n)
  th := fun a h => Same.nn g.h (R.th a h)
  lh := R.lh
  f0 := R.f0.trans g.f
  fn := fun a h => (g.n a (R.th a h)).trans (R.fn a h)
  len := R.len
  sl := fun i => (R.sl i).go g
  dj := R.dj
/-- a new object is laid, clean -/
theorem Go.new {o : HO} (g : Go F H F' H') (hp : H' p = none) : Go F H (upd F' p o) (upd H' p o) := by
  have fp : F' p = none := g.ex.free hp
  have hp0 : H p = none := g.h.free hp
  refine ⟨fun b x e => ?_, fun b x e => ?_, fun b x e => ?_, fun a ha => ?_⟩
  · have q := g.h _ _ e
    rw [upd_ne (ne_of_none q hp)]; exact q
  · have q := g.f _ _ e
    rw [upd_ne (ne_of_none q fp)]; exact q
  · by_cases hb : b = p
    · subst hb; rw [upd_same] at e ⊢; exact e
    · rw [upd_ne hb] at e ⊢; exact g.ex _ _ e
  · have : a ≠ p := fun q => ha (q ▸ hp0)
    rw [upd_ne this]; exact g.n a ha
/-- a new object is laid, not clean -/
theorem Go.lay {o : HO} (g : Go F H F' H') (hp : H' p = none) : Go F H F' (upd H' p o) := by
  refine ⟨fun b x e => ?_, g.f, fun b x e => ?_, g.n⟩
  · have q := g.h _ _ e
    rw [upd_ne (ne_of_none q hp)]; exact q
  · have q := g.ex _ _ e
    rw [upd_ne (ne_of_none q hp)]; exact q
/-- what nobody else has becomes clean -/
theorem Go.freeze {o : HO} (g : Go F H F' H') (h0 : H p = none) (hf : F' p = none) (hp : H' p = some o) : Go F H (upd F' p o) H' := by
  refine ⟨g.h, fun b x e => ?_, fun b x e => ?_, fun a ha => ?_⟩
  · have q := g.f _ _ e
    rw [upd_ne (ne_of_none q hf)]; exact q
  · by_cases hb : b = p
    · subst hb; rw [upd_same] at e; rw [← e]; exact hp
    · rw [upd_ne hb] at e; exact g.ex _ _ e
  · have : a ≠ p := fun q => ha (q ▸ h0)
    rw [upd_ne this]; exact g.n a ha
theorem Same.updN {o : HO} (h : F p = none) : Same F (upd F p o) := fun b x e => by
  rw [upd_ne (ne_of_none e h)]; exact e
def argW : W → W
  | .fr m => .cl m.toD
  | w => w
theorem RepW.arg (g : Go F H F' H') : ∀ {w : W}, RepW T G H F' H' v w → ∃ F2, Go F H F2 H' ∧ Go F' H' F' H' ∧ Same F' F2 ∧ RepW T G H F2 H' v (argW w) ∧ (∀ a, H a ≠ none → F2 a = F' a)
  | .cl d, h => ⟨F', g, Go.refl g.ex, Same.refl _, h, fun _ _ => rfl⟩
  | .bw m, h => ⟨F', g, Go.refl g.ex, Same.refl _, h, fun _ _ => rfl⟩
  | .ow m, h => ⟨F', g, Go.refl g.ex, Same.refl _, h, fun _ _ => rfl⟩
  | .fr m, ⟨p, e, a, h⟩ => by
    obtain ⟨o, q, r⟩ := h.ob
    refine ⟨upd F' p o, g.freeze a h.fn q, Go.refl g.ex, Same.updN h.fn, ?_, fun b hb => upd_ne fun z => hb (z ▸ a)⟩
    subst e
    exact (r.mono (Same.updN h.fn)).rep upd_same
end
end Vl
namespace Vl
open PySem PySem.Spec PyProof.Rows L2

/-! ### readings over data -/
abbrev AE := List AV → (W → Prop) → Prop
abbrev AA := List AV → (List W → Prop) → Prop
abbrev AT := List AV → (Bool → Prop) → Prop
structure AEnds where
  nx : List AV → Prop
  rt : W → List AV → Prop
  bk : List AV → Prop := fun _ => False
  ct : List AV → Prop := fun _ => False
abbrev AS := AEnds → List AV → Prop
def RepA (T : Tb) (G : Gx) (F H : Hp) (v : V) : W → Prop
  | .cl d => Rep T F v d
  | .bw m => ∃ p, v = .ref p ∧ p ∉ G.L ∧ G.H0 p ≠ none ∧ Own T F H p m
  | .ow m => ∃ p, v = .ref p ∧ Own T F H p m
  | .fr _ => False
inductive RepAs (T : Tb) (G : Gx) (F H : Hp) : List V → List W → Prop
  | nil : RepAs T G F H [] []
  | cons {v : V} {vs : List V} {w : W} {ws : List W} : RepA T G F H v w → RepAs T G F H vs ws → RepAs T G F H (v :: vs) (w :: ws)
section
variable (T : Tb)
def rdE (a : AE) : TE := fun σ H Q => ∃ G F δ P, RepS T G F H σ δ ∧ a δ P ∧ ∀ w, P w → ∀ v F' H', Go F H F' H' → RepW T G H F' H' v w → Q v H'
def rdA (a : AA) : TA := fun σ H Q => ∃ G F δ P, RepS T G F H σ δ ∧ a δ P ∧ ∀ ws, P ws → ∀ vs F' H', Go F H F' H' → RepAs T G F' H' vs ws → Q vs H'
def rdT (a : AT) : TT := fun σ H Q => ∃ G F δ P, RepS T G F H σ δ ∧ a δ P ∧ ∀ b, P b → ∀ F' H', Go F H F' H' → Q b H'
/-- what a def hands back -/
def RepR (Hs F H : Hp) (v : V) : W → Prop
  | .cl d => Rep T F v d
  | .fr m => ∃ p, v = .ref p ∧ Hs p = none ∧ Own T F H p m
  | _ => False
structure EndsOk (G : Gx) (Fs : Hp) (E : AEnds) (D : Ends) : Prop where
  nx : ∀ δ, E.nx δ → ∀ F H σ, Same Fs F → RepS T G F H σ δ → D.nx σ H
  rt : ∀ w δ, E.rt w δ → ∀ v F H σ, Same Fs F → RepS T G F H σ δ → RepR T G.H0 F H v w → D.rt v H
  bk : ∀ δ, E.bk δ → ∀ F H σ, Same Fs F → RepS T G F H σ δ → D.bk σ H
  ct : ∀ δ, E.ct δ → ∀ F H σ, Same Fs F → RepS T G F H σ δ → D.ct σ H
def rdS (a : AS) : TS := fun D σ H => ∃ G F δ E, RepS T G F H σ δ ∧ a E δ ∧ EndsOk T G F E D
end
section
variable {T : Tb} {G : Gx} {F F' F2 H H' H2 Hs : Hp} {σ : L2.St} {δ : List AV} {v : V} {w : W} {m : M} {p : Addr}
theorem EndsOk.mono {E : AEnds} {D : Ends} (k : EndsOk T G F E D) (e : Same F F') : EndsOk T G F' E D :=
  ⟨fun δ h F H σ s => k.nx δ h F H σ (e.trans s), fun w δ h v F H σ s => k.rt w δ h v F H σ (e.trans s), fun δ h F H σ s => k.bk δ h F H σ (e.trans s), fun δ h F H σ s => k.ct δ h F H σ (e.trans s)⟩
theorem RepA.go (g : Go F H F' H') : ∀ {w : W}, RepA T G F H v w → RepA T G F' H' v w
  | .cl d, h => Rep.mono g.f h
  | .bw m, ⟨p, e, a, b, h⟩ => ⟨p, e, a, b, h.go g⟩
  | .ow m, ⟨p, e, h⟩ => ⟨p, e, h.go g⟩
  | .fr m, h => h
theorem RepA.toW : ∀ {w : W}, RepA T G F H v w → RepW T G Hs F H v w
  | .cl d, h => h
  | .bw m, h => h
  | .ow m, h => h
  | .fr m, h => h.elim
theorem RepW.toA : ∀ {w : W}, RepW T G Hs F H v (argW w) → RepA T G F H v (argW w)
  | .cl d, h => h
  | .bw m, h => h
  | .ow m, h => h
  | .fr m, h => h
theorem RepAs.go (g : Go F H F' H') : ∀ {vs : List V} {ws : List W}, RepAs T G F H vs ws → RepAs T G F' H' vs ws
  | _, _, .nil => .nil
  | _, _, .cons h r => .cons (h.go g) (RepAs.go g r)
theorem gs_some {i : Nat} (h : gs σ i = some v) : σ[i]? = some (some v) := by
  unfold gs at h
  rw [List.getD_eq_getElem?_getD] at h
  cases q : σ[i]? with
  | none => rw [q] at h; cases h
  | some o => rw [q] at h; cases h; rfl
theorem gs_set {i j : Nat} {o : Option V} (hi : i < σ.length) : gs (σ.set i o) j = if i = j then o else gs σ j := by
  unfold gs
  rw [List.getD_eq_getElem?_getD, List.getD_eq_getElem?_getD, List.getElem?_set]
  by_cases h : i = j
  · subst h; simp [hi]
  · simp [h]
theorem gt_set {i j : Nat} {o : AV} (hi : i < δ.length) : gt (δ.set i o) j = if i = j then o else gt δ j := by
  unfold gt
  rw [List.getD_eq_getElem?_getD, List.getD_eq_getElem?_getD, List.getElem?_set]
  by_cases h : i = j
  · subst h; simp [hi]
  · simp [h]
theorem gs_out {i : Nat} {o : Option V} (hi : ¬ i < σ.length) : σ.set i o = σ := by
  rw [List.set_eq_of_length_le (by omega)]
theorem gt_out {i : Nat} {o : AV} (hi : ¬ i < δ.length) : δ.set i o = δ := by
  rw [List.set_eq_of_length_le (by omega)]
/-- an AE to a test's reading and so on -/
theorem _root_.L2.PE.mono {X : Cx} {e : Expr} {t t' : TE} (h : PE X e t) (k : ∀ σ H Q, t' σ H Q → t σ H Q) : PE X e t' := ⟨fun pins s σ H Q I q => h.run pins s σ H Q I (k σ H Q q)⟩
theorem _root_.L2.PT.mono {X : Cx} {e : Expr} {t t' : TT} (h : PT X e t) (k : ∀ σ H Q, t' σ H Q → t σ H Q) : PT X e t' := ⟨fun pins s σ H Q I q => h.run pins s σ H Q I (k σ H Q q)⟩
theorem _root_.L2.PW.mono {X : Cx} {e : Expr} {t t' : TT} (h : PW X e t) (k : ∀ σ H Q, t' σ H Q → t σ H Q) : PW X e t' := ⟨fun wh pins s σ H Q I q => h.run wh pins s σ H Q I (k σ H Q q)⟩
theorem _root_.L2.PA.mono {X : Cx} {e : List Expr} {t t' : TA} (h : PA X e t) (k : ∀ σ H Q, t' σ H Q → t σ H Q) : PA X e t' := ⟨fun pos pins s σ H Q I q => h.run pos pins s σ H Q I (k σ H Q q)⟩
theorem _root_.L2.PS.mono {X : Cx} {e : Stmt} {t t' : TS} (h : PS X e t) (k : ∀ D σ H, t' D σ H → t D σ H) : PS X e t' := ⟨fun pins s σ H D I q => h.run pins s σ H D I (k D σ H q)⟩
theorem _root_.L2.PSs.mono {X : Cx} {e : List Stmt} {t t' : TS} (h : PSs X e t) (k : ∀ D σ H, t' D σ H → t D σ H) : PSs X e t' := ⟨fun pins s σ H D I q => h.run pins s σ H D I (k D σ H q)⟩
end

/-! ### expressions -/
def slotW : AV → Option W
  | .non => none
  | .im d => some (.cl d)
  | .bw m => some (.bw m)
  | .ow _ m => some (.ow m)
def aV (i : Nat) : AE := fun δ Q => match slotW (gt δ i) with
  | some w => Q w
  | none => False
def aC (d : D) : AE := fun _ Q => Q (.cl d)
/-- one operand, by a step on values -/
def aUn (f : W → (W → Prop) → Prop) (a : AE) : AE := fun δ Q => a δ fun x => f x Q
def aBin (f : W → W → (W → Prop) → Prop) (a b : AE) : AE := fun δ Q => a δ fun x => b δ fun y => f x y Q
/-- a step on two values is right for a reading by values -/
def Bin2 (T : Tb) (r : R2) (f : W → W → (W → Prop) → Prop) : Prop := ∀ (G : Gx) (F H F' H' : Hp) (x y : V) (u w : W) (P : W → Prop) (Q : VK), Go F H F' H' → RepW T G H F' H' x u → RepW T G H F' H' y w → f u w P →
  (∀ z, P z → ∀ v F2 H2, Go F H F2 H2 → RepW T G H F2 H2 v z → Q v H2) → r x y H' Q
def Un1 (T : Tb) (r : V → Hp → VK → Prop) (f : W → (W → Prop) → Prop) : Prop := ∀ (G : Gx) (F H F' H' : Hp) (x : V) (u : W) (P : W → Prop) (Q : VK), Go F H F' H' → RepW T G H F' H' x u → f u P →
  (∀ z, P z → ∀ v F2 H2, Go F H F2 H2 → RepW T G H F2 H2 v z → Q v H2) → r x H' Q
section
variable {T : Tb} {X : Cx} {a b : Expr} {x y : AE} {pos : Pos} {r : R2} {r1 : V → Hp → VK → Prop} {f : W → W → (W → Prop) → Prop} {f1 : W → (W → Prop) → Prop}
theorem rd_un (hf : Un1 T r1 f1) {σ : L2.St} {H : Hp} {Q : VK} (h : rdE T (aUn f1 x) σ H Q) : tUn r1 (rdE T x) σ H Q := by
  obtain ⟨G, F, δ, P, R, h, k⟩ := h
  refine ⟨G, F, δ, _, R, h, fun u hu v F' H' g ru => ?_⟩
  exact hf G F H F' H' v u P Q g ru hu k
theorem rd_bin (hf : Bin2 T r f) {σ : L2.St} {H : Hp} {Q : VK} (h : rdE T (aBin f x y) σ H Q) : tOp r (rdE T x) (rdE T y) σ H Q := by
  obtain ⟨G, F, δ, P, R, h, k⟩ := h
  refine ⟨G, F, δ, _, R, h, fun u hu v F' H' g ru => ?_⟩
  refine ⟨G, F', δ, _, R.go g, hu, fun w hw z F2 H2 g2 rw => ?_⟩
  exact hf G F H F2 H2 v z u w P Q (g.trans g2) (ru.go g2) (rw.back g.h) hw k
theorem e_v (i : Nat) {s : Str} (hN : X.N[i]? = some s := by rfl) (hv : Vis X.env.scope s := by first | exact Or.inl rfl | exact Or.inr (Or.inl rfl) | exact Or.inr (Or.inr rfl)) (hd : (s == ("__debug__" : Str)) = false := by decide)
    (hcd : (s == ("__classdict__" : Str)) = false := by decide) : PE X (.Name s pos) (rdE T (aV i)) := by
  refine (pe_var hN hv hd hcd).mono fun σ H Q h => ?_
  obtain ⟨G, F, δ, P, R, h, k⟩ := h
  have q := R.sl i
  unfold aV at h
  generalize gt δ i = a at h q
  cases a with
  | non => exact h.elim
  | im d =>
    obtain ⟨v, e, r⟩ := q
    exact ⟨v, gs_some e, k _ h v F H (Go.refl R.ex) r⟩
  | bw m =>
    obtain ⟨p, e, r⟩ := q
    exact ⟨.ref p, gs_some e, k _ h _ F H (Go.refl R.ex) ⟨p, rfl, r⟩⟩
  | ow l m =>
    obtain ⟨p, e, _, r⟩ := q
    exact ⟨.ref p, gs_some e, k _ h _ F H (Go.refl R.ex) ⟨p, rfl, r⟩⟩
theorem rd_c {d : D} {v : V} (hv : ∀ F, Rep T F v d) {σ : L2.St} {H : Hp} {Q : VK} (h : rdE T (aC d) σ H Q) : tC v σ H Q := by
  obtain ⟨G, F, δ, P, R, h, k⟩ := h
  exact k _ h v F H (Go.refl R.ex) (hv F)
theorem e_int {i : Int} {j} : PE X (.Constant (.int i) j pos) (rdE T (aC (.int i))) := pe_int.mono fun _ _ _ h => rd_c (fun _ => .int i) h
theorem e_bl {i : Bool} {j} : PE X (.Constant (.bool i) j pos) (rdE T (aC (.bl i))) := pe_bl.mono fun _ _ _ h => rd_c (fun _ => .bl i) h
theorem e_non {j} : PE X (.Constant .none j pos) (rdE T (aC .non)) := pe_non.mono fun _ _ _ h => rd_c (fun _ => .non) h
theorem e_str {s : Str} {j} : PE X (.Constant (.str s) j pos) (rdE T (aC (.str s))) := pe_str.mono fun _ _ _ h => rd_c (fun _ => .str s) h
theorem e_bin {op : Operator} (ho : OpR X (binaryOp op) r) (hf : Bin2 T r f) (ha : PE X a (rdE T x)) (hb : PE X b (rdE T y)) : PE X (.BinOp a op b pos) (rdE T (aBin f x y)) :=
  (pe_op ho ha hb).mono fun _ _ _ h => rd_bin hf h
theorem e_un {op : UnaryOp} (ho : UnR X (unaryOp op) r1) (hf : Un1 T r1 f1) (ha : PE X a (rdE T x)) : PE X (.UnaryOp op a pos) (rdE T (aUn f1 x)) :=
  (pe_un ho ha).mono fun _ _ _ h => rd_un hf h
theorem e_cmp {op : CmpOp} (ho : OpR X (compareOp op) r) (hf : Bin2 T r f) (ha : PE X a (rdE T x)) (hb : PE X b (rdE T y)) (hm : behindInMarks op b = false) : PE X (.Compare a [op] [b] pos) (rdE T (aBin f x y)) :=
  (pe_cmpR ho ha hb hm).mono fun _ _ _ h => rd_bin hf h
end

/-! ### steps on values: ints -/
def dI (C : Int → Int → Prop) (g : Int → Int → D) : W → W → (W → Prop) → Prop := fun x y Q => match x, y with
  | .cl (.int i), .cl (.int j) => C i j ∧ Q (.cl (g i j))
  | _, _ => False
def dI0 (g : Int → Int → D) : W → W → (W → Prop) → Prop := fun x y Q => match x, y with
  | .cl (.int i), .cl (.int j) => Q (.cl (g i j))
  | _, _ => False
theorem dI_inv {C : Int → Int → Prop} {g : Int → Int → D} {x y : W} {Q : W → Prop} (h : dI C g x y Q) : ∃ i j, x = .cl (.int i) ∧ y = .cl (.int j) ∧ C i j ∧ Q (.cl (g i j)) := by
  unfold dI at h
  split at h
  · exact ⟨_, _, rfl, rfl, h⟩
  · exact h.elim
theorem dI0_inv {g : Int → Int → D} {x y : W} {Q : W → Prop} (h : dI0 g x y Q) : ∃ i j, x = .cl (.int i) ∧ y = .cl (.int j) ∧ Q (.cl (g i j)) := by
  unfold dI0 at h
  split at h
  · exact ⟨_, _, rfl, rfl, h⟩
  · exact h.elim
section
variable {T : Tb}
theorem bin_I0 {gV : Int → Int → V} {g : Int → Int → D} (hg : ∀ i j F, Rep T F (gV i j) (g i j)) : Bin2 T (rI0 gV) (dI0 g) := by
  intro G F H F' H' x y u w P Q go rx ry h k
  obtain ⟨i, j, rfl, rfl, q⟩ := dI0_inv h
  exact ⟨i, j, rep_int rx, rep_int ry, k _ q _ _ _ go (hg i j _)⟩
theorem bin_I {C C' : Int → Int → Prop} {gV : Int → Int → V} {g : Int → Int → D} (hc : ∀ i j, C i j → C' i j) (hg : ∀ i j F, C i j → Rep T F (gV i j) (g i j)) : Bin2 T (rI C' gV) (dI C g) := by
  intro G F H F' H' x y u w P Q go rx ry h k
  obtain ⟨i, j, rfl, rfl, c, q⟩ := dI_inv h
  exact ⟨i, j, rep_int rx, rep_int ry, hc i j c, k _ q _ _ _ go (hg i j _ c)⟩
end
/-- conditions as they are easily met -/
def CM (i j : Int) : Prop := (-(2 ^ 64) < i ∧ i < 2 ^ 64) ∨ (-(2 ^ 64) < j ∧ j < 2 ^ 64)
def dSub := dI0 fun i j => .int (i - j)
def dMulI := dI CM fun i j => .int (i * j)
def dDiv := dI (fun _ j => 0 < j ∧ j < 1073741824) fun i j => .int (i / j)
def dMod := dI (fun _ j => 0 < j) fun i j => .int (i % j)
def dShl := dI (fun i j => 0 ≤ j ∧ j ≤ 1000000 ∧ i.natAbs < 2 ^ 64) fun i j => .int (i * 2 ^ j.toNat)
def dPow := dI (fun i j => 0 ≤ j ∧ j ≤ 1000000 ∧ i.natAbs < 2 ^ 64) fun i j => .int (i ^ j.toNat)
def dLt := dI0 fun i j => .bl (decide (i < j))
def dLe := dI0 fun i j => .bl (decide (i ≤ j))
def dGt := dI0 fun i j => .bl (decide (j < i))
def dGe := dI0 fun i j => .bl (decide (j ≤ i))
section
variable {T : Tb}
theorem b_sub : Bin2 T (rI0 fun i j => .int (i - j)) dSub := bin_I0 fun _ _ _ => .int _
theorem b_mul : Bin2 T (rI CMul fun i j => .int (i * j)) dMulI := bin_I (fun _ _ h => h) fun _ _ _ _ => .int _
theorem b_div : Bin2 T (rI CDiv fun i j => .int (i / j)) dDiv := bin_I (fun _ _ h => h) fun _ _ _ _ => .int _
theorem b_mod : Bin2 T (rI (fun _ j => 0 < j) fun i j => .int (i % j)) dMod := bin_I (fun _ _ h => h) fun _ _ _ _ => .int _
theorem b_shl : Bin2 T (rI CPow fun i j => .int (i * 2 ^ j.toNat)) dShl := bin_I (fun _ _ h => h) fun _ _ _ _ => .int _
theorem b_pow : Bin2 T (rI CPow fun i j => .int (i ^ j.toNat)) dPow := bin_I (fun _ _ h => h) fun _ _ _ _ => .int _
theorem b_lt : Bin2 T (rI0 fun i j => .bl (decide (i < j))) dLt := bin_I0 fun _ _ _ => .bl _
theorem b_le : Bin2 T (rI0 fun i j => .bl (decide (i ≤ j))) dLe := bin_I0 fun _ _ _ => .bl _
theorem b_gt : Bin2 T (rI0 fun i j => .bl (decide (j < i))) dGt := bin_I0 fun _ _ _ => .bl _
theorem b_ge : Bin2 T (rI0 fun i j => .bl (decide (j ≤ i))) dGe := bin_I0 fun _ _ _ => .bl _
end
end Vl
namespace Vl
open PySem PySem.Spec PyProof.Rows L2

/-! ### equality of data -/
mutual
def pd : D → PyData
  | .non => .none
  | .bl b => .bool b
  | .int i => .int i
  | .str x => .str x
  | .tup ds => .tuple (pds ds)
  | .lst ds => .list (pds ds)
  | .ins _ _ => .dict []
  | .dct _ _ => .dict []
  | .scr _ => .dict []
def pds : List D → List PyData
  | [] => []
  | d :: ds => pd d :: pds ds
end
def okD (d : D) : Bool := SeqAt.shaped (pd d)
def eqD (a b : D) : Bool := PyData.eqv (pd a) (pd b)
section
variable {T : Tb} {F H : Hp}
mutual
theorem Rep.dp : ∀ {d : D} {v : V}, Rep T H v d → (pd d).canLay0 = true → Dp T.K H v (pd d)
  | .non, _, .non, _ => .non
  | .bl _, _, .bl b, _ => .bl b
  | .int _, _, .int b, _ => .int b
  | .str _, _, .str b, _ => .str b
  | .tup ds, _, .tup h r, k => .tup (SqT.of h) (Reps.dp r (by simpa [pd, PyData.canLay0] using k))
  | .lst ds, _, .lst h r, k => .lst (SqL.of h) (Reps.dp r (by simpa [pd, PyData.canLay0] using k))
  | .ins _ _, _, _, k => by simp [pd, PyData.canLay0] at k
  | .dct _ _, _, _, k => by simp [pd, PyData.canLay0] at k
  | .scr _, _, _, k => by simp [pd, PyData.canLay0] at k
theorem Reps.dp : ∀ {ds : List D} {vs : List V}, Reps T H vs ds → PyData.canLayAll0 (pds ds) = true → DpAll T.K H vs (pds ds)
  | [], _, .nil, _ => .nil
  | d :: ds, _, .cons r t, k => by
    have k' : (pd d).canLay0 = true ∧ PyData.canLayAll0 (pds ds) = true := by simpa [pds, PyData.canLayAll0] using k
    exact .cons (Rep.dp r k'.1) (Reps.dp t k'.2)
end
theorem Rep.dpo {d : D} {v : V} (r : Rep T H v d) (k : okD d = true) : Dp T.K H v (pd d) := r.dp (SeqAt.canLay_of_shaped k)
end
def dEq : W → W → (W → Prop) → Prop := fun x y Q => okD x.toD = true ∧ okD y.toD = true ∧ Q (.cl (.bl (eqD x.toD y.toD)))
def dNe : W → W → (W → Prop) → Prop := fun x y Q => okD x.toD = true ∧ okD y.toD = true ∧ Q (.cl (.bl (!eqD x.toD y.toD)))
def dIsN : W → W → (W → Prop) → Prop := fun x y Q => match x, y with
  | .cl .non, .cl .non => Q (.cl (.bl true))
  | _, .cl .non => Q (.cl (.bl false))
  | _, _ => False
def dNotN : W → W → (W → Prop) → Prop := fun x y Q => match x, y with
  | .cl .non, .cl .non => Q (.cl (.bl false))
  | _, .cl .non => Q (.cl (.bl true))
  | _, _ => False
/-- the items of a list that can be read, of a list or tuple -/
def itemsC : W → Option (List D)
  | .cl (.lst ds) => some ds
  | .bw (.fl ds) => some ds
  | .ow (.fl ds) => some ds
  | .fr (.fl ds) => some ds
  | _ => none
def seqC : W → Option (List D)
  | .cl (.lst ds) => some ds
  | .cl (.tup ds) => some ds
  | .cl (.scr ns) => some (ns.map .int)
  | .bw (.fl ds) => some ds
  | .ow (.fl ds) => some ds
  | .fr (.fl ds) => some ds
  | _ => none
/-- lists alone, the script too -/
def lstC : W → Option (List D)
  | .cl (.tup _) => none
  | w => seqC w
section
variable {T : Tb} {G : Gx} {F H Hs : Hp} {v : V} {w : W} {ds : List D} {p : Addr}
theorem Own.fl (h : Own T F H p (.fl ds)) : ∃ vs, H p = some (.lst vs) ∧ Reps T F vs ds := by
  obtain ⟨_, e, vs, rfl, r⟩ := h.ob
  exact ⟨vs, e, r⟩
theorem RepW.items (e : Same F H) (h : RepW T G Hs F H v w) (k : itemsC w = some ds) : ∃ p vs, v = .ref p ∧ H p = some (.lst vs) ∧ Reps T F vs ds := by
  unfold itemsC at k
  split at k
  · cases k
    cases h with
    | lst q r => exact ⟨_, _, rfl, e _ _ q, r⟩
  · cases k
    obtain ⟨p, rfl, _, _, h⟩ := h
    obtain ⟨vs, q, r⟩ := h.fl
    exact ⟨p, vs, rfl, q, r⟩
  · cases k
    obtain ⟨p, rfl, h⟩ := h
    obtain ⟨vs, q, r⟩ := h.fl
    exact ⟨p, vs, rfl, q, r⟩
  · cases k
    obtain ⟨p, rfl, _, h⟩ := h
    obtain ⟨vs, q, r⟩ := h.fl
    exact ⟨p, vs, rfl, q, r⟩
  · cases k
theorem RepW.seq (e : Same F H) (h : RepW T G Hs F H v w) (k : seqC w = some ds) : ∃ p vs, v = .ref p ∧ (SqL T.K H p vs ∨ SqT T.K H p vs) ∧ Reps T F vs ds := by
  unfold seqC at k
  split at k
  · cases k
    cases h with
    | lst q r => exact ⟨_, _, rfl, .inl (SqL.of (e _ _ q)), r⟩
  · cases k
    cases h with
    | tup q r => exact ⟨_, _, rfl, .inr (SqT.of (e _ _ q)), r⟩
  · cases k
    cases h with
    | scr q => exact ⟨_, _, rfl, .inl (Same.seq e q), reps_of_ints _⟩
  · cases k
    obtain ⟨p, rfl, _, _, h⟩ := h
    obtain ⟨vs, q, r⟩ := h.fl
    exact ⟨p, vs, rfl, .inl (SqL.of q), r⟩
  · cases k
    obtain ⟨p, rfl, h⟩ := h
    obtain ⟨vs, q, r⟩ := h.fl
    exact ⟨p, vs, rfl, .inl (SqL.of q), r⟩
  · cases k
    obtain ⟨p, rfl, _, h⟩ := h
    obtain ⟨vs, q, r⟩ := h.fl
    exact ⟨p, vs, rfl, .inl (SqL.of q), r⟩
  · cases k
theorem RepW.lst (e : Same F H) (h : RepW T G Hs F H v w) (k : lstC w = some ds) : ∃ p vs, v = .ref p ∧ SqL T.K H p vs ∧ Reps T F vs ds := by
  unfold lstC at k
  split at k
  · cases k
  · rename_i hn
    unfold seqC at k
    split at k
    · cases k
      cases h with
      | lst q r => exact ⟨_, _, rfl, SqL.of (e _ _ q), r⟩
    · exact absurd rfl (hn _)
    · cases k
      cases h with
      | scr q => exact ⟨_, _, rfl, Same.seq e q, reps_of_ints _⟩
    · cases k
      obtain ⟨p, rfl, _, _, h⟩ := h
      obtain ⟨vs, q, r⟩ := h.fl
      exact ⟨p, vs, rfl, SqL.of q, r⟩
    · cases k
      obtain ⟨p, rfl, h⟩ := h
      obtain ⟨vs, q, r⟩ := h.fl
      exact ⟨p, vs, rfl, SqL.of q, r⟩
    · cases k
      obtain ⟨p, rfl, _, h⟩ := h
      obtain ⟨vs, q, r⟩ := h.fl
      exact ⟨p, vs, rfl, SqL.of q, r⟩
    · cases k
/-- a new list as an answer -/
theorem new_list {G : Gx} {F0 H0 F' H' : Hp} {vs : List V} {P : W → Prop} {Q : VK} (g : Go F0 H0 F' H') (r : Reps T F' vs ds) (q : P (.fr (.fl ds)))
    (k : ∀ z, P z → ∀ v F2 H2, Go F0 H0 F2 H2 → RepW T G H0 F2 H2 v z → Q v H2) (hp : H' p = none) : Q (.ref p) (upd H' p (.lst vs)) :=
  k _ q _ F' _ (g.lay hp) ⟨p, rfl, g.h.free hp, g.ex.free hp, _, upd_same, vs, rfl, r⟩
theorem new_tup {G : Gx} {F0 H0 F' H' : Hp} {vs : List V} {P : W → Prop} {Q : VK} (g : Go F0 H0 F' H') (r : Reps T F' vs ds) (q : P (.cl (.tup ds)))
    (k : ∀ z, P z → ∀ v F2 H2, Go F0 H0 F2 H2 → RepW T G H0 F2 H2 v z → Q v H2) (hp : H' p = none) : Q (.ref p) (upd H' p (.tup vs)) :=
  k _ q _ _ _ (g.new hp) (.tup upd_same (r.mono (Same.updN (g.ex.free hp))))
end
def dSz (n : Nat) : Prop := n ≤ 1000000
theorem dSz_line {n : Nat} (h : n ≤ 1000000) : n ≤ sizeLine := Nat.le_trans h (by decide)
theorem dSz_lt {n : Nat} (h : n < 1000000) : n < sizeLine := Nat.lt_of_lt_of_le h (by decide)
def dAdd : W → W → (W → Prop) → Prop := fun x y Q => match x, y with
  | .cl (.int i), .cl (.int j) => Q (.cl (.int (i + j)))
  | .cl (.str i), .cl (.str j) => i.length + j.length ≤ 1000000 ∧ Q (.cl (.str (i ++ j)))
  | x, y => match itemsC x, itemsC y with
    | some a, some b => a.length + b.length ≤ 1000000 ∧ Q (.fr (.fl (a ++ b)))
    | _, _ => False
def dMul : W → W → (W → Prop) → Prop := fun x y Q => match x, y with
  | .cl (.int i), .cl (.int j) => CM i j ∧ Q (.cl (.int (i * j)))
  | x, y => match itemsC x, y with
    | some a, .cl (.int k) => (-1000000 ≤ k ∧ k ≤ 1000000 ∧ a.length * k.toNat ≤ 1000000) ∧ Q (.fr (.fl (List.replicate k.toNat a).flatten))
    | _, _ => False
/-- the item at a place, from the end too -/
def ixD {α : Type} (ds : List α) (i : Int) : Option α := if 0 ≤ i then ds[i.toNat]? else if 0 ≤ i + ds.length then ds[(i + ds.length).toNat]? else none
theorem ixD_atI {α : Type} {ds : List α} {i : Int} {d : α} (h : ixD ds i = some d) : atI ds i = some d := by
  unfold ixD at h
  unfold atI ixN
  by_cases h0 : 0 ≤ i
  · rw [if_pos h0] at h
    have hl : i < ds.length := by
      have := (List.getElem?_eq_some_iff.mp h).1
      omega
    simp only [h0, hl, if_true]
    exact h
  · rw [if_neg h0] at h
    by_cases h1 : 0 ≤ i + ds.length
    · rw [if_pos h1] at h
      have : -(ds.length : Int) ≤ i := by omega
      simp only [h0, this, if_true, if_false]
      exact h
    · rw [if_neg h1] at h; cases h
theorem ixD_place {α : Type} {ds : List α} {i : Int} {d : α} (h : ixD ds i = some d) : ∃ j, ixN ds.length i = some j ∧ ds[j]? = some d := by
  have q := ixD_atI h
  unfold atI at q
  cases e : ixN ds.length i with
  | none => rw [e] at q; cases q
  | some j => rw [e] at q; exact ⟨j, rfl, q⟩
theorem Reps.atI {T : Tb} {F : Hp} {vs : List V} {ds : List D} {i : Int} {d : D} (r : Reps T F vs ds) (h : ixD ds i = some d) : ∃ v, atI vs i = some v ∧ Rep T F v d := by
  obtain ⟨j, hj, hd⟩ := ixD_place h
  obtain ⟨v, hv, rv⟩ := r.getD hd
  refine ⟨v, ?_, rv⟩
  unfold L2.atI
  rw [r.length, hj]
  exact hv
def dIx : W → W → (W → Prop) → Prop := fun x y Q => match seqC x, y with
  | some ds, .cl (.int i) => match ixD ds i with
    | some d => Q (.cl d)
    | none => False
  | _, _ => False
/-- a dict by its keys -/
def lookD : List D → List D → D → Option D
  | k :: ks, d :: ds, x => if eqD k x then some d else lookD ks ds x
  | _, _, _ => none
def inD (x : D) (ds : List D) : Bool := ds.any fun y => eqD y x
def dIn (neg : Bool) : W → W → (W → Prop) → Prop := fun x y Q => match lstC y with
  | some ds => okD x.toD = true ∧ okD (.lst ds) = true ∧ Q (.cl (.bl (if neg then !inD x.toD ds else inD x.toD ds)))
  | none => False
section
variable {T : Tb} {X : Cx}
theorem dAdd_inv {x y : W} {Q : W → Prop} (h : dAdd x y Q) : (∃ i j, x = .cl (.int i) ∧ y = .cl (.int j) ∧ Q (.cl (.int (i + j)))) ∨
    (∃ i j, x = .cl (.str i) ∧ y = .cl (.str j) ∧ i.length + j.length ≤ 1000000 ∧ Q (.cl (.str (i ++ j)))) ∨
    (∃ a b, itemsC x = some a ∧ itemsC y = some b ∧ a.length + b.length ≤ 1000000 ∧ Q (.fr (.fl (a ++ b)))) := by
  unfold dAdd at h
  split at h
  · exact .inl ⟨_, _, rfl, rfl, h⟩
  · exact .inr (.inl ⟨_, _, rfl, rfl, h⟩)
  · split at h
    · exact .inr (.inr ⟨_, _, by assumption, by assumption, h⟩)
    · exact h.elim
def rAddAll : R2 := fun x y H Q => (rI0 fun i j => .int (i + j)) x y H Q ∨ (∃ i j, x = .str i ∧ y = .str j ∧ i.length + j.length ≤ sizeLine ∧ Q (.str (i ++ j)) H) ∨ rCat x y H Q
theorem op_addAll : OpR X (binaryOp .Add) rAddAll := op_add.or (op_add_str.or op_cat)
theorem b_add : Bin2 T rAddAll dAdd := by
  intro G F H F' H' x y u w P Q go rx ry h k
  rcases dAdd_inv h with ⟨i, j, rfl, rfl, q⟩ | ⟨i, j, rfl, rfl, l, q⟩ | ⟨a, b, ea, eb, l, q⟩
  · exact .inl ⟨i, j, rep_int rx, rep_int ry, k _ q _ _ _ go (.int _)⟩
  · exact .inr (.inl ⟨i, j, rep_str rx, rep_str ry, dSz_line l, k _ q _ _ _ go (.str _)⟩)
  · obtain ⟨p1, vs, rfl, h1, r1⟩ := rx.items go.ex ea
    obtain ⟨p2, ws, rfl, h2, r2⟩ := ry.items go.ex eb
    refine .inr (.inr ⟨p1, p2, vs, ws, rfl, rfl, h1, h2, by rw [r1.length, r2.length]; exact dSz_line l, fun p hp => ?_⟩)
    exact new_list go (r1.append r2) q k hp
theorem dMul_inv {x y : W} {Q : W → Prop} (h : dMul x y Q) : (∃ i j, x = .cl (.int i) ∧ y = .cl (.int j) ∧ CM i j ∧ Q (.cl (.int (i * j)))) ∨
    (∃ a k, itemsC x = some a ∧ y = .cl (.int k) ∧ (-1000000 ≤ k ∧ k ≤ 1000000 ∧ a.length * k.toNat ≤ 1000000) ∧ Q (.fr (.fl (List.replicate k.toNat a).flatten))) := by
  unfold dMul at h
  split at h
  · exact .inl ⟨_, _, rfl, rfl, h⟩
  · split at h
    · exact .inr ⟨_, _, by assumption, rfl, h⟩
    · exact h.elim
def rMulAll : R2 := fun x y H Q => (rI CMul fun i j => .int (i * j)) x y H Q ∨ rRep x y H Q
theorem op_mulAll : OpR X (binaryOp .Mult) rMulAll := op_mul.or op_rep
theorem b_mulAll : Bin2 T rMulAll dMul := by
  intro G F H F' H' x y u w P Q go rx ry h k
  rcases dMul_inv h with ⟨i, j, rfl, rfl, c, q⟩ | ⟨a, n, ea, rfl, l, q⟩
  · exact .inl ⟨i, j, rep_int rx, rep_int ry, c, k _ q _ _ _ go (.int _)⟩
  · obtain ⟨p1, vs, rfl, h1, r1⟩ := rx.items go.ex ea
    refine .inr ⟨p1, n, vs, rfl, rep_int ry, h1, by omega, by omega, by rw [r1.length]; exact dSz_line l.2.2, fun p hp => ?_⟩
    exact new_list go (r1.replicate n.toNat) q k hp
theorem b_eq : Bin2 T (rEqD T.K) dEq := by
  intro G F H F' H' x y u w P Q go rx ry h k
  obtain ⟨o1, o2, q⟩ := h
  exact ⟨_, _, (rx.rep go.ex).dpo o1, (ry.rep go.ex).dpo o2, o1, o2, k _ q _ _ _ go (.bl _)⟩
theorem b_ne : Bin2 T (rNeD T.K) dNe := by
  intro G F H F' H' x y u w P Q go rx ry h k
  obtain ⟨o1, o2, q⟩ := h
  exact ⟨_, _, (rx.rep go.ex).dpo o1, (ry.rep go.ex).dpo o2, o1, o2, k _ q _ _ _ go (.bl _)⟩
def rIsN : R2 := fun x y H Q => y = .non ∧ Q (.bl (decide (x = .non))) H
def rNotN : R2 := fun x y H Q => y = .non ∧ Q (.bl (!decide (x = .non))) H
theorem op_isN1 : OpR X (compareOp .Is) rIsN := op_isN
theorem op_notN1 : OpR X (compareOp .IsNot) rNotN := op_notN
theorem RepW.non {G : Gx} {Hs F H : Hp} {v : V} {w : W} (h : RepW T G Hs F H v w) : decide (v = .non) = (match w with | .cl .non => true | _ => false) := by
  cases w with
  | cl d => cases h <;> rfl
  | bw m => obtain ⟨p, rfl, _⟩ := h; rfl
  | ow m => obtain ⟨p, rfl, _⟩ := h; rfl
  | fr m => obtain ⟨p, rfl, _⟩ := h; rfl
theorem b_isN : Bin2 T rIsN dIsN := by
  intro G F H F' H' x y u w P Q go rx ry h k
  have e := rx.non
  unfold dIsN at h
  split at h
  · refine ⟨rep_non ry, ?_⟩
    rw [e]
    exact k _ h _ _ _ go (.bl _)
  · rename_i hn
    refine ⟨rep_non ry, ?_⟩
    rw [e]
    split
    · exact (hn rfl).elim
    · exact k _ h _ _ _ go (.bl _)
  · exact h.elim
theorem b_notN : Bin2 T rNotN dNotN := by
  intro G F H F' H' x y u w P Q go rx ry h k
  have e := rx.non
  unfold dNotN at h
  split at h
  · refine ⟨rep_non ry, ?_⟩
    rw [e]
    exact k _ h _ _ _ go (.bl _)
  · rename_i hn
    refine ⟨rep_non ry, ?_⟩
    rw [e]
    split
    · exact (hn rfl).elim
    · exact k _ h _ _ _ go (.bl _)
  · exact h.elim
theorem b_ix : Bin2 T (rIx T.K) dIx := by
  intro G F H F' H' x y u w P Q go rx ry h k
  unfold dIx at h
  split at h
  · rename_i ds i es
    split at h
    · rename_i d ed
      obtain ⟨p, vs, rfl, hs, r⟩ := rx.seq go.ex es
      obtain ⟨v, hv, rv⟩ := r.atI ed
      have qv := k _ h v _ _ go rv
      rcases hs with hs | hs
      · exact .inl ⟨p, vs, i, v, rfl, rep_int ry, hs, hv, qv⟩
      · exact .inr (.inl ⟨p, vs, i, v, rfl, rep_int ry, hs, hv, qv⟩)
    · exact h.elim
  · exact h.elim
/-- in a list (items of any depth); in a tuple of flat things -/
theorem pd_in (x : D) : ∀ ds : List D, ((pds ds).any fun z => PyData.eqv z (pd x)) = inD x ds
  | [] => rfl
  | d :: ds => by
    show (PyData.eqv (pd d) (pd x) || (pds ds).any fun z => PyData.eqv z (pd x)) = (eqD d x || inD x ds)
    rw [pd_in x ds]
    rfl
theorem b_in : Bin2 T (rInD T.K) (dIn false) := by
  intro G F H F' H' x y u w P Q go rx ry h k
  unfold dIn at h
  split at h
  · rename_i ds es
    obtain ⟨o1, o2, q⟩ := h
    obtain ⟨p, vs, rfl, hs, r⟩ := ry.lst go.ex es
    have o3 : PyData.canLayAll0 (pds ds) = true := by simpa [pd, PyData.canLay0] using SeqAt.canLay_of_shaped o2
    refine ⟨_, _, (rx.rep go.ex).dpo o1, .lst hs ((r.mono go.ex).dp o3), o1, o2, ?_⟩
    rw [pd_in]
    exact k _ q _ _ _ go (.bl _)
  · exact h.elim
theorem b_notIn : Bin2 T (rNotInD T.K) (dIn true) := by
  intro G F H F' H' x y u w P Q go rx ry h k
  unfold dIn at h
  split at h
  · rename_i ds es
    obtain ⟨o1, o2, q⟩ := h
    obtain ⟨p, vs, rfl, hs, r⟩ := ry.lst go.ex es
    have o3 : PyData.canLayAll0 (pds ds) = true := by simpa [pd, PyData.canLay0] using SeqAt.canLay_of_shaped o2
    refine ⟨_, _, (rx.rep go.ex).dpo o1, .lst hs ((r.mono go.ex).dp o3), o1, o2, ?_⟩
    rw [pd_in]
    exact k _ q _ _ _ go (.bl _)
  · exact h.elim
end
end Vl
namespace Vl
open PySem PySem.Spec PyProof.Rows L2

/-! ### arguments, displays -/
def aNil : AA := fun _ Q => Q []
def aCons (e : AE) (es : AA) : AA := fun δ Q => e δ fun w => es δ fun ws => Q (argW w :: ws)
def clDs : List W → Option (List D)
  | [] => some []
  | .cl d :: ws => (clDs ws).map (d :: ·)
  | _ :: _ => none
def aTup (es : AA) : AE := fun δ Q => es δ fun ws => match clDs ws with
  | some ds => ds.length ≤ 1000000 ∧ Q (.cl (.tup ds))
  | none => False
def aLst (es : AA) : AE := fun δ Q => es δ fun ws => match clDs ws with
  | some ds => ds.length ≤ 1000000 ∧ Q (.fr (.fl ds))
  | none => False
/-- a call by values -/
def aCB (f : List W → (W → Prop) → Prop) (es : AA) : AE := fun δ Q => es δ fun ws => f ws Q
def CallV (T : Tb) (r : List V → Hp → VK → Prop) (f : List W → (W → Prop) → Prop) : Prop := ∀ (G : Gx) (F H F' H' : Hp) (xs : List V) (ws : List W) (P : W → Prop) (Q : VK), Go F H F' H' → RepAs T G F' H' xs ws → f ws P →
  (∀ z, P z → ∀ v F2 H2, Go F H F2 H2 → RepW T G H F2 H2 v z → Q v H2) → r xs H' Q
section
variable {T : Tb} {X : Cx} {e : Expr} {es : List Expr} {x : AE} {xs : AA} {pos p : Pos} {G : Gx} {F H : Hp}
theorem reps_cl : ∀ {vs : List V} {ws : List W} {ds : List D}, RepAs T G F H vs ws → clDs ws = some ds → Reps T F vs ds
  | _, _, _, .nil, h => by cases h; exact .nil
  | _, .cl d :: ws, _, .cons r t, h => by
    unfold clDs at h
    cases q : clDs ws with
    | none => rw [q] at h; cases h
    | some es => rw [q] at h; cases h; exact .cons r (reps_cl t q)
  | _, .bw _ :: ws, _, .cons r t, h => by cases h
  | _, .ow _ :: ws, _, .cons r t, h => by cases h
  | _, .fr _ :: ws, _, .cons r t, h => by cases h
theorem a_nil : PA X [] (rdA T aNil) := pa_nil.mono fun σ H Q h => by
  obtain ⟨G, F, δ, P, R, h, k⟩ := h
  exact k _ h [] F H (Go.refl R.ex) .nil
theorem a_cons (ha : PE X e (rdE T x)) (hr : PA X es (rdA T xs)) (hs : starEach (e :: es) X.env = (false, eval e X.env) :: starEach es X.env := by rfl) : PA X (e :: es) (rdA T (aCons x xs)) :=
  (pa_cons ha hr hs).mono fun σ H Q h => by
    obtain ⟨G, F, δ, P, R, h, k⟩ := h
    refine ⟨G, F, δ, _, R, h, fun w hw v F1 H1 g r => ?_⟩
    obtain ⟨F2, g2, _, _, r2, _⟩ := RepW.arg g r
    refine ⟨G, F2, δ, _, R.go g2, hw, fun ws hws vs F3 H3 g3 r3 => ?_⟩
    exact k _ hws (v :: vs) F3 H3 (g2.trans g3) (.cons (r2.toA.go g3) r3)
theorem e_tup {x1} (h : PA X es (rdA T xs)) : PE X (.Tuple es x1 pos) (rdE T (aTup xs)) := (pe_tup h).mono fun σ H Q h => by
  obtain ⟨G, F, δ, P, R, h, k⟩ := h
  refine ⟨G, F, δ, _, R, h, fun ws hw vs F1 H1 g r => ?_⟩
  split at hw
  · rename_i ds hd
    obtain ⟨l, q⟩ := hw
    have rr := reps_cl r hd
    exact ⟨by rw [rr.length]; exact dSz_line l, fun p hp => new_tup g rr q k hp⟩
  · exact hw.elim
theorem e_lst (h : PA X es (rdA T xs)) : PE X (.List es pos) (rdE T (aLst xs)) := (pe_lst h).mono fun σ H Q h => by
  obtain ⟨G, F, δ, P, R, h, k⟩ := h
  refine ⟨G, F, δ, _, R, h, fun ws hw vs F1 H1 g r => ?_⟩
  split at hw
  · rename_i ds hd
    obtain ⟨l, q⟩ := hw
    have rr := reps_cl r hd
    exact ⟨by rw [rr.length]; exact dSz_line l, fun p hp => new_list g rr q k hp⟩
  · exact hw.elim
theorem rd_cb {r : List V → Hp → VK → Prop} {f : List W → (W → Prop) → Prop} (hf : CallV T r f) {σ : L2.St} {H : Hp} {Q : VK} (h : rdE T (aCB f xs) σ H Q) : tCB r (rdA T xs) σ H Q := by
  obtain ⟨G, F, δ, P, R, h, k⟩ := h
  exact ⟨G, F, δ, _, R, h, fun ws hw vs F1 H1 g r => hf G F H F1 H1 vs ws P Q g r hw k⟩
theorem e_cb {r : List V → Hp → VK → Prop} {f : List W → (W → Prop) → Prop} {s : Str} {id : String} (hc : CallR X (.builtin id) r) (hf : CallV T r f) (hg : Gl X s) (hm : X.mg s = none) (hv : bootBuiltins s = some (.builtin id)) (ha : PA X (e :: es) (rdA T xs)) (hn : s ≠ "__name__" := by decide) (hdb : (s == ("__debug__" : Str)) = false := by decide)
    (he : starEach (e :: es) X.env = (false, eval e X.env) :: starEach es X.env := by rfl) (hpl : (backTo pos (starEach es X.env)).any (·.1) = false := by rfl) : PE X (.Call (.Name s p) (e :: es) [] pos) (rdE T (aCB f xs)) :=
  (pe_callB hc hg hm hv ha hn hdb he hpl).mono fun _ _ _ h => rd_cb hf h
theorem e_cty {r : List V → Hp → VK → Prop} {f : List W → (W → Prop) → Prop} {s : Str} {id : String} (hc : CallR X (.type id) r) (hf : CallV T r f) (hg : Gl X s) (hm : X.mg s = none) (hv : bootBuiltins s = some (.type id)) (ha : PA X (e :: es) (rdA T xs)) (hn : s ≠ "__name__" := by decide) (hdb : (s == ("__debug__" : Str)) = false := by decide)
    (he : starEach (e :: es) X.env = (false, eval e X.env) :: starEach es X.env := by rfl) (hpl : (backTo pos (starEach es X.env)).any (·.1) = false := by rfl) : PE X (.Call (.Name s p) (e :: es) [] pos) (rdE T (aCB f xs)) :=
  (pe_callTy hc hg hm hv ha hn hdb he hpl).mono fun _ _ _ h => rd_cb hf h
theorem e_cbf {r : List V → Hp → VK → Prop} {f : List W → (W → Prop) → Prop} {s : Str} {id : String} (hc : CallR X (.builtin id) r) (hf : CallV T r f) (hg : Gl X s) (hm : X.mg s = some (.builtin id)) (ha : PA X (e :: es) (rdA T xs)) (hdb : (s == ("__debug__" : Str)) = false := by decide)
    (he : starEach (e :: es) X.env = (false, eval e X.env) :: starEach es X.env := by rfl) (hpl : (backTo pos (starEach es X.env)).any (·.1) = false := by rfl) : PE X (.Call (.Name s p) (e :: es) [] pos) (rdE T (aCB f xs)) :=
  (pe_callBfun hc hg hm ha hdb he hpl).mono fun _ _ _ h => rd_cb hf h
end

/-! ### built-ins by value -/
def one {α : Type} (f : W → α → Prop) : List W → α → Prop := fun ws Q => match ws with
  | [w] => f w Q
  | _ => False
def two {α : Type} (f : W → W → α → Prop) : List W → α → Prop := fun ws Q => match ws with
  | [w, u] => f w u Q
  | _ => False
def fLen : List W → (W → Prop) → Prop := one fun w Q => match w with
  | .cl (.str z) => z.length ≤ 1000000 ∧ Q (.cl (.int z.length))
  | .cl (.dct ks _) => Q (.cl (.int ks.length))
  | .bw (.fd ks _) => Q (.cl (.int ks.length))
  | .ow (.fd ks _) => Q (.cl (.int ks.length))
  | w => match seqC w with
    | some ds => Q (.cl (.int ds.length))
    | none => False
/-- len of lists, tuples, texts -/
def fLen1 : List W → (W → Prop) → Prop := one fun w Q => match w with
  | .cl (.str z) => z.length ≤ 1000000 ∧ Q (.cl (.int z.length))
  | w => match seqC w with
    | some ds => Q (.cl (.int ds.length))
    | none => False
def fInt : List W → (W → Prop) → Prop := one fun w Q => match w with
  | .cl (.int i) => Q (.cl (.int i))
  | .cl (.bl b) => Q (.cl (.int (if b then 1 else 0)))
  | _ => False
def fAbs : List W → (W → Prop) → Prop := one fun w Q => match w with
  | .cl (.int i) => Q (.cl (.int (if i < 0 then -i else i)))
  | _ => False
def fMax2 : List W → (W → Prop) → Prop := two fun w u Q => match w, u with
  | .cl (.int i), .cl (.int j) => Q (.cl (.int (if j > i then j else i)))
  | _, _ => False
def fMin2 : List W → (W → Prop) → Prop := two fun w u Q => match w, u with
  | .cl (.int i), .cl (.int j) => Q (.cl (.int (if j < i then j else i)))
  | _, _ => False
def fGcd : List W → (W → Prop) → Prop := two fun w u Q => match w, u with
  | .cl (.int i), .cl (.int j) => Q (.cl (.int ((Nat.gcd i.natAbs j.natAbs : Nat) : Int)))
  | _, _ => False
def fList : List W → (W → Prop) → Prop := one fun w Q => match seqC w with
  | some ds => Q (.fr (.fl ds))
  | none => False
section
variable {T : Tb} {X : Cx} {G : Gx} {F H : Hp}
theorem one_inv {α : Type} {f : W → α → Prop} {ws : List W} {Q : α} {xs : List V} (h : one f ws Q) (r : RepAs T G F H xs ws) : ∃ x w, xs = [x] ∧ ws = [w] ∧ RepW T G H F H x w ∧ f w Q := by
  unfold one at h
  split at h
  · rename_i w
    cases r with
    | cons r t => cases t; exact ⟨_, w, rfl, rfl, r.toW, h⟩
  · exact h.elim
theorem two_inv {α : Type} {f : W → W → α → Prop} {ws : List W} {Q : α} {xs : List V} (h : two f ws Q) (r : RepAs T G F H xs ws) : ∃ x y w u, xs = [x, y] ∧ ws = [w, u] ∧ RepW T G H F H x w ∧ RepW T G H F H y u ∧ f w u Q := by
  unfold two at h
  split at h
  · rename_i w u
    cases r with
    | cons r t => cases t with
      | cons r2 t => cases t; exact ⟨_, _, w, u, rfl, rfl, r.toW, r2.toW, h⟩
  · exact h.elim
def rLenAll (K : PySem.W.Frag) : List V → Hp → VK → Prop := fun xs H Q => (∃ z, xs = [.str z] ∧ z.length ≤ sizeLine ∧ Q (.int z.length) H) ∨ ∃ p ys, xs = [.ref p] ∧ (SqL K H p ys ∨ SqT K H p ys) ∧ Q (.int ys.length) H
theorem call_lenAll : CallR X (.builtin "len") (rLenAll X.K) := call_len_str.or call_len_seq
theorem c_len : CallV T (rLenAll T.K) fLen1 := by
  intro G F H F' H' xs ws P Q g r h k
  obtain ⟨x, w, rfl, rfl, rx, h⟩ := one_inv h r
  split at h
  · exact .inl ⟨_, by rw [rep_str rx], dSz_line h.1, k _ h.2 _ _ _ g (.int _)⟩
  · split at h
    · rename_i ds es
      obtain ⟨p, vs, rfl, hs, rr⟩ := rx.seq g.ex es
      refine .inr ⟨p, vs, rfl, hs, ?_⟩
      rw [rr.length]
      exact k _ h _ _ _ g (.int _)
    · exact h.elim
theorem c_int : CallV T (fun xs H Q => (∃ i, xs = [.int i] ∧ Q (.int i) H) ∨ ∃ k, xs = [.bl k] ∧ Q (.int (if k then 1 else 0)) H) fInt := by
  intro G F H F' H' xs ws P Q g r h k
  obtain ⟨x, w, rfl, rfl, rx, h⟩ := one_inv h r
  split at h
  · exact .inl ⟨_, by rw [rep_int rx], k _ h _ _ _ g (.int _)⟩
  · exact .inr ⟨_, by rw [rep_bl rx], k _ h _ _ _ g (.int _)⟩
  · exact h.elim
theorem c_abs : CallV T (fun xs H Q => ∃ i, xs = [.int i] ∧ Q (.int (if i < 0 then -i else i)) H) fAbs := by
  intro G F H F' H' xs ws P Q g r h k
  obtain ⟨x, w, rfl, rfl, rx, h⟩ := one_inv h r
  split at h
  · exact ⟨_, by rw [rep_int rx], k _ h _ _ _ g (.int _)⟩
  · exact h.elim
theorem c_max2 : CallV T (fun xs H Q => ∃ i j, xs = [.int i, .int j] ∧ Q (.int (if j > i then j else i)) H) fMax2 := by
  intro G F H F' H' xs ws P Q g r h k
  obtain ⟨x, y, w, u, rfl, rfl, rx, ry, h⟩ := two_inv h r
  split at h
  · exact ⟨_, _, by rw [rep_int rx, rep_int ry], k _ h _ _ _ g (.int _)⟩
  · exact h.elim
theorem c_min2 : CallV T (fun xs H Q => ∃ i j, xs = [.int i, .int j] ∧ Q (.int (if j < i then j else i)) H) fMin2 := by
  intro G F H F' H' xs ws P Q g r h k
  obtain ⟨x, y, w, u, rfl, rfl, rx, ry, h⟩ := two_inv h r
  split at h
  · exact ⟨_, _, by rw [rep_int rx, rep_int ry], k _ h _ _ _ g (.int _)⟩
  · exact h.elim
theorem c_gcd : CallV T rGcd fGcd := by
  intro G F H F' H' xs ws P Q g r h k
  obtain ⟨x, y, w, u, rfl, rfl, rx, ry, h⟩ := two_inv h r
  split at h
  · exact ⟨_, _, by rw [rep_int rx, rep_int ry], k _ h _ _ _ g (.int _)⟩
  · exact h.elim
theorem c_list : CallV T (fun xs H Q => ∃ p ys, xs = [.ref p] ∧ (SqL T.K H p ys ∨ SqT T.K H p ys) ∧ ∀ l, H l = none → Q (.ref l) (upd H l (.lst ys))) fList := by
  intro G F H F' H' xs ws P Q g r h k
  obtain ⟨x, w, rfl, rfl, rx, h⟩ := one_inv h r
  split at h
  · rename_i ds es
    obtain ⟨p, vs, rfl, hs, rr⟩ := rx.seq g.ex es
    exact ⟨p, vs, rfl, hs, fun l hl => new_list g rr h k hl⟩
  · exact h.elim
end

/-! ### isinstance(x, T), T a built-in class -/
def tyN : D → Option String
  | .non => some "NoneType"
  | .bl _ => some "bool"
  | .int _ => some "int"
  | .str _ => some "str"
  | .tup _ => some "tuple"
  | .lst _ => some "list"
  | .dct _ _ => some "dict"
  | _ => none
def isiT : List (String × String × Bool) := [("NoneType", "bool", false), ("NoneType", "int", false), ("NoneType", "list", false), ("NoneType", "tuple", false), ("NoneType", "str", false),
  ("bool", "bool", true), ("bool", "int", true), ("bool", "list", false), ("bool", "tuple", false), ("bool", "str", false),
  ("int", "bool", false), ("int", "int", true), ("int", "list", false), ("int", "tuple", false), ("int", "str", false),
  ("str", "bool", false), ("str", "int", false), ("str", "list", false), ("str", "tuple", false), ("str", "str", true),
  ("tuple", "bool", false), ("tuple", "int", false), ("tuple", "list", false), ("tuple", "tuple", true), ("tuple", "str", false),
  ("list", "bool", false), ("list", "int", false), ("list", "list", true), ("list", "tuple", false), ("list", "str", false)]
theorem isiT_ok : ∀ p ∈ isiT, kitB p.1 p.2.1 = some p.2.2 := by decide +kernel
def isiF (d : D) (t : String) : Option Bool := (tyN d).bind fun n => (isiT.find? fun p => p.1 == n && p.2.1 == t).map (·.2.2)
theorem isiF_inv {d : D} {t : String} {b : Bool} (h : isiF d t = some b) : ∃ n, tyN d = some n ∧ (n, t, b) ∈ isiT := by
  unfold isiF at h
  cases e : tyN d with
  | none => rw [e] at h; cases h
  | some n =>
    rw [e] at h
    have h : (isiT.find? fun p => p.1 == n && p.2.1 == t).map (·.2.2) = some b := h
    cases e2 : isiT.find? fun p => p.1 == n && p.2.1 == t with
    | none => rw [e2] at h; cases h
    | some p =>
      rw [e2] at h
      have h : some p.2.2 = some b := h
      cases h
      have h1 := List.find?_some e2
      have h2 := List.mem_of_find?_eq_some e2
      simp only [Bool.and_eq_true, beq_iff_eq] at h1
      refine ⟨n, rfl, ?_⟩
      obtain ⟨p1, p2, p3⟩ := p
      obtain ⟨rfl, rfl⟩ := h1
      exact h2
def aIsi (t : String) (a : AE) : AE := fun δ Q => a δ fun w => match isiF w.toD t with
  | some b => Q (.cl (.bl b))
  | none => False
section
variable {T : Tb} {X : Cx} {G : Gx} {F H : Hp}
theorem rep_ty {v : V} {d : D} {n : String} (r : Rep T H v d) (h : tyN d = some n) : TyX T.K H v (.type n) := by
  cases r with
  | non => cases h; exact .base .non
  | bl b => cases h; exact .base (.bl b)
  | int b => cases h; exact .base (.int b)
  | str b => cases h; exact .base (.str b)
  | tup q _ => cases h; exact .base (.tup q)
  | lst q _ => cases h; exact .base (.lst q)
  | dK q _ _ => cases h; exact .base (.dK q)
  | dT q _ _ => cases h; exact .base (.dT q)
  | ins _ _ _ => cases h
  | scr _ => cases h
theorem e_isi {e : Expr} {x : AE} {t : String} {s : Str} {p p2 pos : Pos} (hm : X.mg "isinstance" = none) (hg : Gl X "isinstance") (hg2 : Gl X s) (hm2 : X.mg s = none) (hv2 : bootBuiltins s = some (.type t)) (ha : PE X e (rdE T x)) (hTK : T.K = X.K)
    (hn : s ≠ "__name__" := by decide) (hd : (s == ("__debug__" : Str)) = false := by decide)
    (hs1 : starEach [e, .Name s p2] X.env = (false, eval e X.env) :: starEach [.Name s p2] X.env := by rfl) (hs2 : starEach [.Name s p2] X.env = (false, eval (.Name s p2) X.env) :: starEach [] X.env := by rfl) (hpl : (backTo pos (starEach [.Name s p2] X.env)).any (·.1) = false := by rfl) :
    PE X (.Call (.Name "isinstance" p) [e, .Name s p2] [] pos) (rdE T (aIsi t x)) := by
  refine (pe_callB call_isi hg hm (by decide +kernel) (pa_cons ha (pa_cons (pe_bltn (v := .ty t) hg2 hm2 hv2 rfl hn hd) pa_nil hs2) hs1) (by decide) (by decide) hs1 hpl).mono fun σ H Q h => ?_
  obtain ⟨G, F, δ, P, R, h, k⟩ := h
  refine ⟨G, F, δ, _, R, h, fun w hw v F1 H1 g r => ?_⟩
  split at hw
  · rename_i b hb0
    obtain ⟨n, hn, hb⟩ := isiF_inv hb0
    have q := hw
    refine ⟨v, .ty t, .type n, .type t, b, rfl, .ty t, ?_, kit_ty (isiT_ok _ hb), k _ q _ _ _ g (.bl b)⟩
    rw [← hTK]
    exact rep_ty (r.rep g.ex) hn
  · exact hw.elim
end

/-! ### and, or, not, if: values and tests -/
def aAndV (a b : AE) : AE := fun δ Q => a δ fun w => match w with
  | .cl (.bl true) => b δ Q
  | .cl (.bl false) => Q (.cl (.bl false))
  | _ => False
def aOrV (a b : AE) : AE := fun δ Q => a δ fun w => match w with
  | .cl (.bl true) => Q (.cl (.bl true))
  | .cl (.bl false) => b δ Q
  | _ => False
def dNot : W → (W → Prop) → Prop := fun w Q => match w with
  | .cl (.bl b) => Q (.cl (.bl (!b)))
  | _ => False
def aB (a : AE) : AT := fun δ Q => a δ fun w => match w with
  | .cl (.bl b) => Q b
  | _ => False
def aAnd (a b : AT) : AT := fun δ Q => a δ fun c => if c = true then b δ Q else Q false
def aOr (a b : AT) : AT := fun δ Q => a δ fun c => if c = true then Q true else b δ Q
def aNot (a : AT) : AT := fun δ Q => a δ fun c => Q (!c)
def aIfE (t : AT) (a b : AE) : AE := fun δ Q => t δ fun c => if c = true then a δ Q else b δ Q
section
variable {T : Tb} {X : Cx} {a b c : Expr} {x y : AE} {t u : AT} {pos : Pos} {rest : List Expr}
theorem e_one {op} (h : PE X a (rdE T x)) : PE X (.BoolOp op [a] pos) (rdE T x) := pe_one h
theorem e_and (ha : PE X a (rdE T x)) (hb : PE X (.BoolOp .And (b :: rest) pos) (rdE T y)) : PE X (.BoolOp .And (a :: b :: rest) pos) (rdE T (aAndV x y)) := (pe_and ha hb).mono fun σ H Q h => by
  obtain ⟨G, F, δ, P, R, h, k⟩ := h
  refine ⟨G, F, δ, _, R, h, fun w hw v F1 H1 g r => ?_⟩
  split at hw
  · refine ⟨true, rep_bl r, ?_⟩
    rw [if_pos rfl]
    exact ⟨G, F1, δ, P, R.go g, hw, fun z hz v F2 H2 g2 r2 => k z hz v F2 H2 (g.trans g2) (r2.back g.h)⟩
  · refine ⟨false, rep_bl r, ?_⟩
    rw [if_neg Bool.false_ne_true]
    exact k _ hw _ _ _ g (.bl _)
  · exact hw.elim
theorem e_or (ha : PE X a (rdE T x)) (hb : PE X (.BoolOp .Or (b :: rest) pos) (rdE T y)) : PE X (.BoolOp .Or (a :: b :: rest) pos) (rdE T (aOrV x y)) := (pe_or ha hb).mono fun σ H Q h => by
  obtain ⟨G, F, δ, P, R, h, k⟩ := h
  refine ⟨G, F, δ, _, R, h, fun w hw v F1 H1 g r => ?_⟩
  split at hw
  · refine ⟨true, rep_bl r, ?_⟩
    rw [if_pos rfl]
    exact k _ hw _ _ _ g (.bl _)
  · refine ⟨false, rep_bl r, ?_⟩
    rw [if_neg Bool.false_ne_true]
    exact ⟨G, F1, δ, P, R.go g, hw, fun z hz v F2 H2 g2 r2 => k z hz v F2 H2 (g.trans g2) (r2.back g.h)⟩
  · exact hw.elim
theorem e_not (ha : PE X a (rdE T x)) : PE X (.UnaryOp .Not a pos) (rdE T (aUn dNot x)) := (pe_not ha).mono fun σ H Q h => by
  obtain ⟨G, F, δ, P, R, h, k⟩ := h
  refine ⟨G, F, δ, _, R, h, fun w hw v F1 H1 g r => ?_⟩
  unfold dNot at hw
  split at hw
  · exact ⟨_, rep_bl r, k _ hw _ _ _ g (.bl _)⟩
  · exact hw.elim
theorem t_val (h : PE X a (rdE T x)) (he : ∀ whole, isTrue a X.env whole = (do let v ← whole; standAt a.pos; holding [v] (truthy v)) := by intro _; rfl) : PT X a (rdT T (aB x)) := (pt_val h he).mono fun σ H Q h => by
  obtain ⟨G, F, δ, P, R, h, k⟩ := h
  refine ⟨G, F, δ, _, R, h, fun w hw v F1 H1 g r => ?_⟩
  split at hw
  · exact ⟨_, rep_bl r, k _ hw _ _ g⟩
  · exact hw.elim
theorem t_cmp {op : CmpOp} {r : R2} {f : W → W → (W → Prop) → Prop} (ho : OpR X (compareOp op) r) (hf : Bin2 T r f) (ha : PE X a (rdE T x)) (hb : PE X b (rdE T y)) (hm : behindInMarks op b = false) : PT X (.Compare a [op] [b] pos) (rdT T (aB (aBin f x y))) :=
  (pt_cmpR ho ha hb hm).mono fun σ H Q h => by
    obtain ⟨G, F, δ, P, R, h, k⟩ := h
    refine rd_bin hf ⟨G, F, δ, _, R, h, fun w hw v F1 H1 g r => ?_⟩
    split at hw
    · exact ⟨_, rep_bl r, k _ hw _ _ g⟩
    · exact hw.elim
theorem w_and1 (h : PT X a (rdT T t)) : PW X (.BoolOp .And [a] pos) (rdT T t) := pw_and1 h
theorem w_or1 (h : PT X a (rdT T t)) : PW X (.BoolOp .Or [a] pos) (rdT T t) := pw_or1 h
theorem w_and (ha : PT X a (rdT T t)) (hb : PW X (.BoolOp .And (b :: rest) pos) (rdT T u)) : PW X (.BoolOp .And (a :: b :: rest) pos) (rdT T (aAnd t u)) := (pw_and ha hb).mono fun σ H Q h => by
  obtain ⟨G, F, δ, P, R, h, k⟩ := h
  refine ⟨G, F, δ, _, R, h, fun c hc F1 H1 g => ?_⟩
  cases c with
  | true => exact ⟨G, F1, δ, P, R.go g, hc, fun z hz F2 H2 g2 => k z hz F2 H2 (g.trans g2)⟩
  | false => exact k _ hc _ _ g
theorem w_or (ha : PT X a (rdT T t)) (hb : PW X (.BoolOp .Or (b :: rest) pos) (rdT T u)) : PW X (.BoolOp .Or (a :: b :: rest) pos) (rdT T (aOr t u)) := (pw_or ha hb).mono fun σ H Q h => by
  obtain ⟨G, F, δ, P, R, h, k⟩ := h
  refine ⟨G, F, δ, _, R, h, fun c hc F1 H1 g => ?_⟩
  cases c with
  | false => exact ⟨G, F1, δ, P, R.go g, hc, fun z hz F2 H2 g2 => k z hz F2 H2 (g.trans g2)⟩
  | true => exact k _ hc _ _ g
theorem t_not (h : PT X a (rdT T t)) : PT X (.UnaryOp .Not a pos) (rdT T (aNot t)) := (pt_not h).mono fun σ H Q h => by
  obtain ⟨G, F, δ, P, R, h, k⟩ := h
  exact ⟨G, F, δ, _, R, h, fun c hc F1 H1 g => k _ hc _ _ g⟩
theorem e_if (ht : PT X c (rdT T t)) (ha : PE X a (rdE T x)) (hb : PE X b (rdE T y)) : PE X (.IfExp c a b pos) (rdE T (aIfE t x y)) := (pe_ifExp ht ha hb).mono fun σ H Q h => by
  obtain ⟨G, F, δ, P, R, h, k⟩ := h
  refine ⟨G, F, δ, _, R, h, fun c hc F1 H1 g => ?_⟩
  cases c with
  | true => exact ⟨G, F1, δ, P, R.go g, hc, fun z hz v F2 H2 g2 r2 => k z hz v F2 H2 (g.trans g2) (r2.back g.h)⟩
  | false => exact ⟨G, F1, δ, P, R.go g, hc, fun z hz v F2 H2 g2 r2 => k z hz v F2 H2 (g.trans g2) (r2.back g.h)⟩
end
end Vl
namespace Vl
open PySem PySem.Spec PyProof.Rows L2

/-! ### statements -/
def slotA : W → Option AV
  | .cl d => some (.im d)
  | .fr m => some (.ow false m)
  | _ => none
def aNext : AS := fun E δ => E.nx δ
def aSeq (s t : AS) : AS := fun E δ => s { E with nx := t E } δ
/-- what follows is shown once -/
def aCut (s t : AS) : AS := fun E δ => ∃ Mid : List AV → Prop, s { E with nx := Mid } δ ∧ ∀ δ', Mid δ' → t E δ'
def aSet (i : Nat) (e : AE) : AS := fun E δ => e δ fun w => match slotA w with
  | some a => E.nx (δ.set i a)
  | none => False
def aDrop (e : AE) : AS := fun E δ => e δ fun _ => E.nx δ
def aIf (t : AT) (s u : AS) : AS := fun E δ => t δ fun b => if b = true then s E δ else u E δ
def aRet (e : AE) : AS := fun E δ => e δ fun w => match w with
  | .cl d => E.rt (.cl d) δ
  | .fr m => E.rt (.fr m) δ
  | _ => False
/-- a local of the def's own is handed back -/
def aRetV (i : Nat) : AS := fun E δ => match gt δ i with
  | .im d => E.rt (.cl d) δ
  | .ow false m => E.rt (.fr m) δ
  | _ => False
def aRetN : AS := fun E δ => E.rt (.cl .non) δ
def aBreak : AS := fun E δ => E.bk δ
def aCont : AS := fun E δ => E.ct δ
/-- from here on the i-th slot's list is changed by nobody -/
def frz (i : Nat) (δ : List AV) : List AV := match gt δ i with
  | .ow false m => δ.set i (.im m.toD)
  | _ => δ
def aFrz (i : Nat) (s : AS) : AS := fun E δ => s E (frz i δ)

section
variable {T : Tb} {G : Gx} {F F' F1 H H' H1 : Hp} {σ : L2.St} {δ : List AV} {v : V} {w : W} {m m' : M} {p : Addr} {i j : Nat} {a : AV} {l : Bool} {o : HO}
theorem gs_ref (h : gs σ i = some v) : i < σ.length := by
  have := gs_some h
  exact (List.getElem?_eq_some_iff.mp this).1
theorem gt_lt (h : gt δ i ≠ .non) : i < δ.length := by
  unfold gt at h
  rw [List.getD_eq_getElem?_getD] at h
  cases q : δ[i]? with
  | none => rw [q] at h; exact absurd rfl h
  | some _ => exact (List.getElem?_eq_some_iff.mp q).1
/-- a slot is stored -/
theorem RepS.put (R : RepS T G F H σ δ) (h : SlotOk T G F H (some v) a) (hd : ∀ l m, a = .ow l m → ∀ j l' m', gt δ j = .ow l' m' → gs σ j ≠ some v) : RepS T G F H (σ.set i (some v)) (δ.set i a) where
  ex := R.ex
  fr := R.fr
  th := R.th
  lh := R.lh
  f0 := R.f0
  fn := R.fn
  len := by rw [List.length_set, List.length_set]; exact R.len
  sl := fun j => by
    by_cases hi : i < σ.length
    · have hi' : i < δ.length := R.len ▸ hi
      rw [gs_set hi, gt_set hi']
      by_cases e : i = j
      · rw [if_pos e, if_pos e]; exact h
      · rw [if_neg e, if_neg e]; exact R.sl j
    · have hi' : ¬ i < δ.length := R.len ▸ hi
      rw [gs_out hi, gt_out hi']; exact R.sl j
  dj := fun j k l l' m m' e1 e2 e3 => by
    by_cases hi : i < σ.length
    · have hi' : i < δ.length := R.len ▸ hi
      rw [gs_set hi, gs_set hi] at e3
      rw [gt_set hi'] at e1 e2
      by_cases ej : i = j
      · by_cases ek : i = k
        · exact ej.symm.trans ek
        · rw [if_pos ej] at e1 e3
          rw [if_neg ek] at e2 e3
          exact absurd e3.symm (hd _ _ e1 _ _ _ e2)
      · by_cases ek : i = k
        · rw [if_neg ej] at e1 e3
          rw [if_pos ek] at e2 e3
          exact absurd e3 (hd _ _ e2 _ _ _ e1)
        · rw [if_neg ej] at e1 e3
          rw [if_neg ek] at e2 e3
          exact R.dj j k l l' m m' e1 e2 e3
    · have hi' : ¬ i < δ.length := R.len ▸ hi
      rw [gs_out hi] at e3
      rw [gt_out hi'] at e1 e2
      exact R.dj j k l l' m m' e1 e2 e3
theorem RepS.store (R : RepS T G F H σ δ) (g : Go F H F1 H1) (r : RepW T G H F1 H1 v w) (hs : slotA w = some a) : RepS T G F1 H1 (σ.set i (some v)) (δ.set i a) := by
  refine (R.go g).put ?_ ?_
  · cases w with
    | cl d => cases hs; exact ⟨v, rfl, r⟩
    | fr m =>
      cases hs
      obtain ⟨p, rfl, hp, o⟩ := r
      refine ⟨p, rfl, ?_, o⟩
      rw [if_neg Bool.false_ne_true]
      exact Classical.byContradiction fun q => R.th p q hp
    | bw m => cases hs
    | ow m => cases hs
  · intro l m e j l' m' ej hj
    cases w with
    | cl d => cases hs; cases e
    | fr m2 =>
      obtain ⟨p, rfl, hp, o⟩ := r
      have q := R.sl j
      rw [ej] at q
      obtain ⟨p', e', _, o'⟩ := q
      rw [hj] at e'
      cases e'
      obtain ⟨_, e3, _⟩ := o'.ob
      rw [hp] at e3; cases e3
    | bw m => cases hs
    | ow m => cases hs
/-- an own object is changed -/
theorem RepS.mut (R : RepS T G F H σ δ) (e : gt δ i = .ow l m) (hp : gs σ i = some (.ref p)) (h : MObj T F m' o) : RepS T G F (upd H p o) σ (δ.set i (.ow l m')) := by
  have si := R.sl i
  rw [e] at si
  obtain ⟨p', e', pl, ow⟩ := si
  rw [hp] at e'
  cases e'
  have hi' : i < δ.length := gt_lt (by rw [e]; simp)
  have fp := ow.fn
  have pin : ∀ a x, G.H0 a = some x → a ∉ G.L → a ≠ p := fun a x h1 h2 z => by
    subst z
    cases l with
    | true => exact h2 (by simpa using pl)
    | false => rw [show G.H0 a = none by simpa using pl] at h1; cases h1
  have own_keep : ∀ {q : Addr} {m2 : M}, q ≠ p → Own T F H q m2 → Own T F (upd H p o) q m2 := fun {q m2} hq ⟨a, b, c, d⟩ => ⟨a, b, by rw [upd_ne hq]; exact c, d⟩
  refine ⟨fun a x h1 => ?_, fun a x h1 h2 => ?_, fun a h1 => ?_, R.lh, R.f0, R.fn, by rw [List.length_set]; exact R.len, fun j => ?_, fun j k l1 l2 m1 m2 e1 e2 e3 => ?_⟩
  · rw [upd_ne (ne_of_none h1 fp)]; exact R.ex _ _ h1
  · rw [upd_ne (pin a x h1 h2)]; exact R.fr a x h1 h2
  · by_cases q : a = p
    · subst q; rw [upd_same]; simp
    · rw [upd_ne q]; exact R.th a h1
  · rw [gt_set hi']
    by_cases ej : i = j
    · rw [if_pos ej, ← ej, hp]
      exact ⟨p, rfl, pl, fp, o, upd_same, h⟩
    · rw [if_neg ej]
      have q := R.sl j
      revert q
      generalize hg : gt δ j = aj
      intro q
      cases aj with
      | non => trivial
      | im d => exact q
      | bw m2 =>
        obtain ⟨q', e1, h1, h2, h3⟩ := q
        refine ⟨q', e1, h1, h2, own_keep (fun z => ?_) h3⟩
        subst z
        cases l with
        | true => exact h1 (by simpa using pl)
        | false => exact h2 (by simpa using pl)
      | ow l2 m2 =>
        obtain ⟨q', e1, h1, h3⟩ := q
        refine ⟨q', e1, h1, own_keep (fun z => ?_) h3⟩
        subst z
        exact ej (R.dj i j l l2 m m2 e hg (hp.trans e1.symm))
  · rw [gt_set hi'] at e1 e2
    have f : ∀ {k l1 m1}, (if i = k then AV.ow l m' else gt δ k) = .ow l1 m1 → ∃ l3 m3, gt δ k = .ow l3 m3 := fun {k l1 m1} h => by
      by_cases q : i = k
      · subst q; exact ⟨_, _, e⟩
      · rw [if_neg q] at h; exact ⟨_, _, h⟩
    obtain ⟨_, _, a1⟩ := f e1
    obtain ⟨_, _, a2⟩ := f e2
    exact R.dj j k _ _ _ _ a1 a2 e3
/-- an own object is changed by nobody from here on -/
theorem RepS.frz (R : RepS T G F H σ δ) (i : Nat) : ∃ F', Same F F' ∧ RepS T G F' H σ (frz i δ) := by
  unfold Vl.frz
  split
  · rename_i m e
    have si := R.sl i
    rw [e] at si
    obtain ⟨p, hp, pl, ow⟩ := si
    have pl : G.H0 p = none := by simpa using pl
    obtain ⟨o, ho, mo⟩ := ow.ob
    have fp := ow.fn
    have hi' : i < δ.length := gt_lt (by rw [e]; simp)
    have sm : Same F (upd F p o) := Same.updN fp
    have own_keep : ∀ {q : Addr} {m2 : M}, q ≠ p → Own T F H q m2 → Own T (upd F p o) H q m2 := fun {q m2} hq ⟨a, b, c, d⟩ => ⟨by rw [upd_ne hq]; exact a, b, c, d.mono sm⟩
    refine ⟨upd F p o, sm, fun a x h1 => ?_, R.fr, R.th, R.lh, R.f0.trans sm, fun a h1 => ?_, by rw [List.length_set]; exact R.len, fun j => ?_, fun j k l1 l2 m1 m2 e1 e2 e3 => ?_⟩
    · by_cases q : a = p
      · subst q; rw [upd_same] at h1; rw [← h1]; exact ho
      · rw [upd_ne q] at h1; exact R.ex _ _ h1
    · rw [upd_ne fun z => h1 (by rw [z]; exact pl)]; exact R.fn a h1
    · rw [gt_set hi']
      by_cases ej : i = j
      · rw [if_pos ej, ← ej, hp]
        exact ⟨_, rfl, (mo.mono sm).rep upd_same⟩
      · rw [if_neg ej]
        have q := R.sl j
        revert q
        generalize hg : gt δ j = aj
        intro q
        cases aj with
        | non => trivial
        | im d => obtain ⟨v, e1, r⟩ := q; exact ⟨v, e1, r.mono sm⟩
        | bw m2 =>
          obtain ⟨q', e1, h1, h2, h3⟩ := q
          exact ⟨q', e1, h1, h2, own_keep (fun z => h2 (by rw [z]; exact pl)) h3⟩
        | ow l2 m2 =>
          obtain ⟨q', e1, h1, h3⟩ := q
          refine ⟨q', e1, h1, own_keep (fun z => ?_) h3⟩
          subst z
          exact ej (R.dj i j false l2 m m2 e hg (hp.trans e1.symm))
    · rw [gt_set hi'] at e1 e2
      by_cases q : i = j
      · rw [if_pos q] at e1; cases e1
      · by_cases q2 : i = k
        · rw [if_pos q2] at e2; cases e2
        · rw [if_neg q] at e1; rw [if_neg q2] at e2
          exact R.dj j k _ _ _ _ e1 e2 e3
  · exact ⟨F, Same.refl _, R⟩
end
section
variable {T : Tb} {X : Cx} {st : Stmt} {rest : List Stmt} {s t u : AS} {e c : Expr} {x : AE} {at_ : AT} {pos : Pos} {i : Nat}
theorem ss_nil : PSs X [] (rdS T aNext) := pss_nil.mono fun D σ H h => by
  obtain ⟨G, F, δ, E, R, h, k⟩ := h
  exact k.nx _ h F H σ (Same.refl _) R
theorem ss_cons (h1 : PS X st (rdS T s)) (h2 : PSs X rest (rdS T t)) : PSs X (st :: rest) (rdS T (aSeq s t)) := (pss_cons h1 h2).mono fun D σ H h => by
  obtain ⟨G, F, δ, E, R, h, k⟩ := h
  exact ⟨G, F, δ, _, R, h, ⟨fun δ' q F' H' σ' s R' => ⟨G, F', δ', E, R', q, k.mono s⟩, k.rt, k.bk, k.ct⟩⟩
theorem ss_cut (h1 : PS X st (rdS T s)) (h2 : PSs X rest (rdS T t)) : PSs X (st :: rest) (rdS T (aCut s t)) := (pss_cons h1 h2).mono fun D σ H h => by
  obtain ⟨G, F, δ, E, R, ⟨Mid, h, hm⟩, k⟩ := h
  exact ⟨G, F, δ, _, R, h, ⟨fun δ' q F' H' σ' s R' => ⟨G, F', δ', E, R', hm δ' q, k.mono s⟩, k.rt, k.bk, k.ct⟩⟩
theorem ss_one (h1 : PS X st (rdS T s)) : PSs X [st] (rdS T s) := pss_one h1
theorem s_frz (i : Nat) (h : PS X st (rdS T s)) : PS X st (rdS T (aFrz i s)) := h.mono fun D σ H h => by
  obtain ⟨G, F, δ, E, R, h, k⟩ := h
  obtain ⟨F', sm, R'⟩ := R.frz i
  exact ⟨G, F', _, E, R', h, k.mono sm⟩
theorem ss_frz (i : Nat) (h : PSs X rest (rdS T s)) : PSs X rest (rdS T (aFrz i s)) := h.mono fun D σ H h => by
  obtain ⟨G, F, δ, E, R, h, k⟩ := h
  obtain ⟨F', sm, R'⟩ := R.frz i
  exact ⟨G, F', _, E, R', h, k.mono sm⟩
theorem s_pass : PS X (.Pass pos) (rdS T aNext) := ps_pass.mono fun D σ H h => by
  obtain ⟨G, F, δ, E, R, h, k⟩ := h
  exact k.nx _ h F H σ (Same.refl _) R
theorem s_break : PS X (.Break pos) (rdS T aBreak) := ps_break.mono fun D σ H h => by
  obtain ⟨G, F, δ, E, R, h, k⟩ := h
  exact k.bk _ h F H σ (Same.refl _) R
theorem s_cont : PS X (.Continue pos) (rdS T aCont) := ps_continue.mono fun D σ H h => by
  obtain ⟨G, F, δ, E, R, h, k⟩ := h
  exact k.ct _ h F H σ (Same.refl _) R
theorem rd_set {D : Ends} {σ : L2.St} {H : Hp} (h : rdS T (aSet i x) D σ H) : tAsg (rdE T x) (gName i) D σ H := by
  obtain ⟨G, F, δ, E, R, h, k⟩ := h
  refine ⟨G, F, δ, _, R, h, fun w hw v F1 H1 g r => ?_⟩
  split at hw
  · rename_i a ha
    exact k.nx _ hw F1 H1 _ g.f (R.store g r ha)
  · exact hw.elim
theorem s_set {y : Str} {pos' : Pos} (hN : X.N.Nodup) (hi : X.N[i]? = some y) (hx : Loc X.env.scope y) (he : PE X e (rdE T x)) (hs : swapsWith e (some (.Name y pos')) pos.line X.env = pure false := by rfl) (hf : X.fn y = true ∨ X.env.scope.names.lookup y = some .local := by first | exact .inl rfl | exact .inr rfl | assumption) :
    PS X (.Assign [.Name y pos'] e pos) (rdS T (aSet i x)) := (ps_set hN hi hx he hs hf).mono fun _ _ _ h => rd_set h
theorem s_expr (he : PE X e (rdE T x)) (hs : swapsWith e none pos.line X.env = pure false := by rfl) : PS X (.Expr e pos) (rdS T (aDrop x)) := (ps_expr he hs).mono fun D σ H h => by
  obtain ⟨G, F, δ, E, R, h, k⟩ := h
  exact ⟨G, F, δ, _, R, h, fun w hw v F1 H1 g r => k.nx _ hw F1 H1 _ g.f (R.go g)⟩
theorem s_if {a b : List Stmt} (ht : PT X c (rdT T at_)) (ha : PSs X a (rdS T s)) (hb : PSs X b (rdS T u)) : PS X (.If c a b pos) (rdS T (aIf at_ s u)) := (ps_if ht ha hb).mono fun D σ H h => by
  obtain ⟨G, F, δ, E, R, h, k⟩ := h
  refine ⟨G, F, δ, _, R, h, fun c hc F1 H1 g => ?_⟩
  cases c with
  | true => exact ⟨G, F1, δ, E, R.go g, hc, k.mono g.f⟩
  | false => exact ⟨G, F1, δ, E, R.go g, hc, k.mono g.f⟩
theorem s_ret (he : PE X e (rdE T x)) : PS X (.Return (some e) pos) (rdS T (aRet x)) := (ps_ret he).mono fun D σ H h => by
  obtain ⟨G, F, δ, E, R, h, k⟩ := h
  refine ⟨G, F, δ, _, R, h, fun w hw v F1 H1 g r => ?_⟩
  split at hw
  · exact k.rt _ δ hw v F1 H1 σ g.f (R.go g) r
  · refine k.rt _ δ hw v F1 H1 σ g.f (R.go g) ?_
    obtain ⟨p, e, hp, o⟩ := r
    exact ⟨p, e, Classical.byContradiction fun q => R.th p q hp, o⟩
  · exact hw.elim
theorem s_retV (i : Nat) {y : Str} {p2 : Pos} (hN : X.N[i]? = some y := by rfl) (hv : Vis X.env.scope y := by first | exact Or.inl rfl | exact Or.inr (Or.inl rfl) | exact Or.inr (Or.inr rfl)) (hd : (y == ("__debug__" : Str)) = false := by decide)
    (hcd : (y == ("__classdict__" : Str)) = false := by decide) : PS X (.Return (some (.Name y p2)) pos) (rdS T (aRetV i)) := (ps_ret (pe_var hN hv hd hcd)).mono fun D σ H h => by
  obtain ⟨G, F, δ, E, R, h, k⟩ := h
  have q := R.sl i
  unfold aRetV at h
  generalize gt δ i = a at h q
  cases a with
  | non => exact h.elim
  | im d =>
    obtain ⟨v, e, r⟩ := q
    exact ⟨v, gs_some e, k.rt _ δ h v F H σ (Same.refl _) R r⟩
  | bw m => exact h.elim
  | ow l m =>
    cases l with
    | true => exact h.elim
    | false =>
      obtain ⟨p, e, hp, r⟩ := q
      exact ⟨.ref p, gs_some e, k.rt _ δ h _ F H σ (Same.refl _) R ⟨p, rfl, by simpa using hp, r⟩⟩
theorem s_retN : PS X (.Return none pos) (rdS T aRetN) := ps_retN.mono fun D σ H h => by
  obtain ⟨G, F, δ, E, R, h, k⟩ := h
  exact k.rt _ δ h .non F H σ (Same.refl _) R .non
end

/-! ### targets -/
abbrev AG := D → List AV → (List AV → Prop) → Prop
abbrev AGs := List D → List AV → (List AV → Prop) → Prop
def agN (i : Nat) : AG := fun d δ Q => Q (δ.set i (.im d))
def agT (n : Nat) (g : AGs) : AG := fun d δ Q => match d with
  | .tup ds => ds.length = n ∧ g ds δ Q
  | _ => False
def agNil : AGs := fun ds δ Q => ds = [] ∧ Q δ
def agCons (g : AG) (gs : AGs) : AGs := fun ds δ Q => match ds with
  | d :: ds => g d δ fun δ' => gs ds δ' Q
  | [] => False
/-- slots outside ks are as they were -/
def Keep (ks : List Nat) (σ σ' : L2.St) : Prop := σ'.length = σ.length ∧ ∀ i, i ∉ ks → σ'[i]? = σ[i]?
def rdG (T : Tb) (ks : List Nat) (a : AG) : TG := fun v σ H Q => ∃ G F δ P d, RepS T G F H σ δ ∧ Rep T F v d ∧ a d δ P ∧ ∀ δ', P δ' → ∀ σ', Keep ks σ σ' → RepS T G F H σ' δ' → Q σ' H
def rdGs (T : Tb) (ks : List Nat) (a : AGs) : TGs := fun vs σ H Q => ∃ G F δ P ds, RepS T G F H σ δ ∧ Reps T F vs ds ∧ a ds δ P ∧ ∀ δ', P δ' → ∀ σ', Keep ks σ σ' → RepS T G F H σ' δ' → Q σ' H
theorem _root_.L2.PG.mono {X : Cx} {e : Expr} {t t' : TG} (h : PG X e t) (k : ∀ v σ H Q, t' v σ H Q → t v σ H Q) : PG X e t' := ⟨fun pins s σ H v u Q I r q => h.run pins s σ H v u Q I r (k v σ H Q q)⟩
theorem _root_.L2.PGs.mono {X : Cx} {e : List Expr} {t t' : TGs} (h : PGs X e t) (k : ∀ v σ H Q, t' v σ H Q → t v σ H Q) : PGs X e t' := ⟨fun pins s σ H v u Q I r q => h.run pins s σ H v u Q I r (k v σ H Q q)⟩
section
variable {T : Tb} {X : Cx} {pos : Pos} {ks ks' : List Nat} {σ σ' σ2 : L2.St}
theorem Keep.refl : Keep ks σ σ := ⟨rfl, fun _ _ => rfl⟩
theorem Keep.trans (a : Keep ks σ σ') (b : Keep ks' σ' σ2) : Keep (ks ++ ks') σ σ2 :=
  ⟨b.1.trans a.1, fun i hi => (b.2 i fun h => hi (List.mem_append_right _ h)).trans (a.2 i fun h => hi (List.mem_append_left _ h))⟩
theorem g_name {i : Nat} {x : Str} (hN : X.N.Nodup) (hi : X.N[i]? = some x) (hx : Loc X.env.scope x) (hf : X.fn x = true ∨ X.env.scope.names.lookup x = some .local := by first | exact .inl rfl | exact .inr rfl | assumption) : PG X (.Name x pos) (rdG T [i] (agN i)) :=
  (pg_name hN hi hx hf).mono fun v σ H Q h => by
    obtain ⟨G, F, δ, P, d, R, r, h, k⟩ := h
    refine k _ h _ ⟨by rw [List.length_set], fun j hj => ?_⟩ (R.put (a := .im d) ⟨v, rfl, r⟩ fun _ _ e => nomatch e)
    rw [List.getElem?_set_ne]
    exact fun e => hj (by simp [e])
theorem g_nil : PGs X [] (rdGs T [] agNil) := pgs_nil.mono fun v σ H Q h => by
  obtain ⟨G, F, δ, P, d, R, r, ⟨e, h⟩, k⟩ := h
  subst e
  cases r
  exact ⟨rfl, k _ h _ Keep.refl R⟩
theorem g_cons {e : Expr} {es : List Expr} {a : AG} {as : AGs} (h1 : PG X e (rdG T ks a)) (h2 : PGs X es (rdGs T ks' as))
    (hs : (assignEach (e :: es) X.env).map (·.2) = assign e X.env :: (assignEach es X.env).map (·.2) := by rfl) : PGs X (e :: es) (rdGs T (ks ++ ks') (agCons a as)) := (pgs_cons h1 h2 hs).mono fun v σ H Q h => by
  obtain ⟨G, F, δ, P, ds, R, r, h, k⟩ := h
  cases r with
  | nil => exact h.elim
  | cons r t =>
    exact ⟨_, _, rfl, G, F, δ, _, _, R, r, h, fun δ' q σ' kp R' => ⟨G, F, δ', P, _, R', t, q, fun δ2 q2 σ2 kp2 R2 => k δ2 q2 σ2 (kp.trans kp2) R2⟩⟩
theorem g_tup {es : List Expr} {k : Nat} {a : AGs} {n : Nat} (hc : X.calm = true) (h : PGs X es (rdGs T ks a))
    (hn : (assignEach es X.env).length = n := by rfl) (hst : (assignEach es X.env).findIdx? (·.1) = none := by rfl) : PG X (.Tuple es k pos) (rdG T ks (agT n a)) := (pg_tup hc h hn hst).mono fun v σ H Q h => by
  obtain ⟨G, F, δ, P, d, R, r, h, k⟩ := h
  unfold agT at h
  split at h
  · rename_i ds
    obtain ⟨q1, q2⟩ := h
    obtain ⟨p, vs, rfl, hp, rr⟩ := rep_tup r
    exact ⟨p, vs, rfl, SqT.of (R.ex _ _ hp), rr.length.trans q1, G, F, δ, P, ds, R, rr, q2, k⟩
  · exact h.elim
/-- (a, b) = e and the like -/
def aAsgG (e : AE) (g : AG) : AS := fun E δ => e δ fun w => match argW w with
  | .cl d => g d δ E.nx
  | _ => False
theorem s_asgG {tg e : Expr} {x : AE} {a : AG} (he : PE X e (rdE T x)) (hg : PG X tg (rdG T ks a)) (hs : swapsWithSole [tg] e pos.line X.env = pure false := by rfl) (hw : swappedStores [tg] e X.env = pure none := by rfl)
    (h1 : (assignEach [tg] X.env).map (·.2) = [assign tg X.env] := by rfl) : PS X (.Assign [tg] e pos) (rdS T (aAsgG x a)) := (ps_asg he hg hs hw h1).mono fun D σ H h => by
  obtain ⟨G, F, δ, E, R, h, k⟩ := h
  refine ⟨G, F, δ, _, R, h, fun w hw v F1 H1 g r => ?_⟩
  obtain ⟨F2, g2, _, _, r2, _⟩ := RepW.arg g r
  split at hw
  · rename_i d hd
    rw [hd] at r2
    exact ⟨G, F2, δ, _, d, R.go g2, r2, hw, fun δ' q σ' _ R' => k.nx _ q F2 H1 σ' g2.f R'⟩
  · exact hw.elim
end

/-! ### what is walked -/
abbrev AI := List AV → (List D → Prop) → Prop
/-- J walks over the data ds -/
def IsWalk (T : Tb) (G : Gx) (F : Hp) (J : It) (ds : List D) : Prop := ∃ Gd Y, Walk J ds.length Gd Y ∧ (∀ F' H' σ' δ', Same F F' → RepS T G F' H' σ' δ' → Gd H') ∧
  ∀ i H x H', i < ds.length → Gd H → Y i H x H' → H' = H ∧ ∃ d, ds[i]? = some d ∧ ∀ F', Same F F' → Same F' H → Rep T F' x d
def rdI (T : Tb) (a : AI) : TI := fun σ H R => ∃ G F δ P, RepS T G F H σ δ ∧ a δ P ∧ ∀ ds, P ds → ∀ J F1 H1, Go F H F1 H1 → IsWalk T G F1 J ds → R J H1
theorem _root_.L2.PI.mono {X : Cx} {tg it : Expr} {t t' : TI} (h : PI X tg it t) (k : ∀ σ H Q, t' σ H Q → t σ H Q) : PI X tg it t' := ⟨fun pins s σ H R I q => h.run pins s σ H R I (k σ H R q)⟩
/-- a list that nobody changes meanwhile -/
def iLst (a : AE) : AI := fun δ Q => a δ fun w => match argW w with
  | .cl (.lst ds) => Q ds
  | .cl (.scr ns) => Q (ns.map .int)
  | .bw (.fl ds) => Q ds
  | _ => False
def iTup (a : AE) : AI := fun δ Q => a δ fun w => match argW w with
  | .cl (.tup ds) => Q ds
  | _ => False
/-- lo, lo + 1, .. -/
def ups (lo : Int) (n : Nat) : List D := (List.range n).map fun i => .int (lo + (i : Nat))
def iR1 (a : AA) : AI := fun δ Q => a δ fun ws => match ws with
  | [.cl (.int j)] => (-1000000000000 ≤ j ∧ j ≤ 1000000000000) ∧ Q (ups 0 j.toNat)
  | _ => False
def iR2 (a : AA) : AI := fun δ Q => a δ fun ws => match ws with
  | [.cl (.int i), .cl (.int j)] => (-1000000000000 ≤ i ∧ i ≤ 1000000000000 ∧ -1000000000000 ≤ j ∧ j ≤ 1000000000000) ∧ Q (ups i (j - i).toNat)
  | _ => False
section
variable {T : Tb} {X : Cx} {tg e : Expr} {es : List Expr} {x : AE} {xs : AA} {G : Gx} {F : Hp} {pos p : Pos}
theorem walk_fl {a : Addr} {vs : List V} {ds : List D} (r : Reps T F vs ds) (hs : ∀ F' H' σ' δ', Same F F' → RepS T G F' H' σ' δ' → SqL T.K H' a vs) : IsWalk T G F (Itl T.K a) ds := by
  have w := walk_list (K := T.K) (a := a) (xs := vs)
  rw [r.length] at w
  refine ⟨_, _, w, hs, fun i H x H' hi g y => ⟨y.1, ?_⟩⟩
  obtain ⟨d, hd, rd⟩ := r.get y.2
  exact ⟨d, hd, fun F' s _ => rd.mono s⟩
theorem walk_tl {a : Addr} {vs : List V} {ds : List D} (r : Reps T F vs ds) (hs : ∀ F' H' σ' δ', Same F F' → RepS T G F' H' σ' δ' → SqT T.K H' a vs) : IsWalk T G F (Itt T.K a) ds := by
  have w := walk_tup (K := T.K) (a := a) (xs := vs)
  rw [r.length] at w
  refine ⟨_, _, w, hs, fun i H x H' hi g y => ⟨y.1, ?_⟩⟩
  obtain ⟨d, hd, rd⟩ := r.get y.2
  exact ⟨d, hd, fun F' s _ => rd.mono s⟩
theorem walk_up {lo : Int} {n : Nat} : IsWalk T G F (Itr lo n) (ups lo n) := by
  have e : (ups lo n).length = n := by unfold ups; simp
  refine ⟨fun _ => True, YFn fun i => .int (lo + i), by rw [e]; exact walk_range, fun _ _ _ _ _ _ => trivial, fun i H x H' hi g y => ⟨y.1, ?_⟩⟩
  rw [e] at hi
  refine ⟨.int (lo + (i : Nat)), by unfold ups; simp [hi], fun F' _ _ => ?_⟩
  rw [y.2]
  exact .int _
theorem i_lst (hTK : T.K = X.K) (he : PE X e (rdE T x)) : PI X tg e (rdI T (iLst x)) := (pi_list he).mono fun σ H Q h => by
  obtain ⟨G, F, δ, P, R, h, k⟩ := h
  refine ⟨G, F, δ, _, R, h, fun w hw v F1 H1 g r => ?_⟩
  obtain ⟨F2, g2, _, _, r2, _⟩ := RepW.arg g r
  rw [← hTK]
  split at hw
  · rename_i ds hd
    rw [hd] at r2
    obtain ⟨a, vs, rfl, ha, rr⟩ := rep_lst r2
    exact ⟨a, rfl, ⟨vs, SqL.of (g2.ex _ _ ha)⟩, k _ hw _ F2 H1 g2 (walk_fl rr fun F' H' σ' δ' s R' => SqL.of (R'.ex _ _ (s _ _ ha)))⟩
  · rename_i ns hd
    rw [hd] at r2
    cases r2 with
    | scr q => exact ⟨_, rfl, ⟨_, Same.seq g2.ex q⟩, k _ hw _ F2 H1 g2 (walk_fl (reps_of_ints _) fun F' H' σ' δ' s R' => Same.seq R'.ex (Same.seq s q))⟩
  · rename_i ds hd
    rw [hd] at r2
    obtain ⟨a, rfl, hn, h0, o⟩ := r2
    obtain ⟨vs, q, rr⟩ := o.fl
    refine ⟨a, rfl, ⟨vs, SqL.of q⟩, k _ hw _ F2 H1 g2 (walk_fl rr fun F' H' σ' δ' s R' => SqL.of ?_)⟩
    cases e0 : G.H0 a with
    | none => exact absurd e0 h0
    | some ob =>
      have z1 := (R.go g2).fr a ob e0 hn
      have z2 := R'.fr a ob e0 hn
      rw [z2, ← z1]; exact q
  · exact hw.elim
theorem i_tup (hTK : T.K = X.K) (he : PE X e (rdE T x)) : PI X tg e (rdI T (iTup x)) := (pi_tup he).mono fun σ H Q h => by
  obtain ⟨G, F, δ, P, R, h, k⟩ := h
  refine ⟨G, F, δ, _, R, h, fun w hw v F1 H1 g r => ?_⟩
  obtain ⟨F2, g2, _, _, r2, _⟩ := RepW.arg g r
  rw [← hTK]
  split at hw
  · rename_i ds hd
    rw [hd] at r2
    obtain ⟨a, vs, rfl, ha, rr⟩ := rep_tup r2
    exact ⟨a, rfl, ⟨vs, SqT.of (g2.ex _ _ ha)⟩, k _ hw _ F2 H1 g2 (walk_tl rr fun F' H' σ' δ' s R' => SqT.of (R'.ex _ _ (s _ _ ha)))⟩
  · exact hw.elim
theorem i_r1 (hg : Gl X "range") (hm : X.mg "range" = none) (ha : PA X [e] (rdA T xs)) (hs : starEach [e] X.env = [(false, eval e X.env)] := by rfl) : PI X tg (.Call (.Name "range" p) [e] [] pos) (rdI T (iR1 xs)) := (pi_range1 hg hm ha hs).mono fun σ H Q h => by
  obtain ⟨G, F, δ, P, R, h, k⟩ := h
  refine ⟨G, F, δ, _, R, h, fun ws hw vs F1 H1 g r => ?_⟩
  split at hw
  · rename_i j
    cases r with
    | cons r t =>
      cases t
      exact ⟨j, by rw [rep_int r], by omega, by omega, k _ hw.2 _ F1 H1 g walk_up⟩
  · exact hw.elim
theorem i_r2 {e2 : Expr} (hg : Gl X "range") (hm : X.mg "range" = none) (ha : PA X [e, e2] (rdA T xs)) (hs : starEach [e, e2] X.env = [(false, eval e X.env), (false, eval e2 X.env)] := by rfl) (hs2 : starEach [e2] X.env = [(false, eval e2 X.env)] := by rfl) :
    PI X tg (.Call (.Name "range" p) [e, e2] [] pos) (rdI T (iR2 xs)) := (pi_range2 hg hm ha hs hs2).mono fun σ H Q h => by
  obtain ⟨G, F, δ, P, R, h, k⟩ := h
  refine ⟨G, F, δ, _, R, h, fun ws hw vs F1 H1 g r => ?_⟩
  split at hw
  · rename_i i j
    cases r with
    | cons r t =>
      cases t with
      | cons r2 t =>
        cases t
        exact ⟨i, j, by rw [rep_int r, rep_int r2], ⟨by omega, by omega, by omega, by omega⟩, k _ hw.2 _ F1 H1 g walk_up⟩
  · exact hw.elim
end

/-! ### loops -/
def aFor (ai : AI) (g : AG) (body : AS) : AS := fun E δ => ai δ fun ds => ∃ I : Nat → List AV → Prop, I 0 δ ∧
  (∀ i d δ', ds[i]? = some d → I i δ' → g d δ' fun δ2 => body { E with nx := I (i + 1), ct := I (i + 1), bk := E.nx } δ2) ∧ ∀ δ', I ds.length δ' → E.nx δ'
def aWhile (t : AT) (body : AS) : AS := fun E δ => ∃ I : Nat → List AV → Prop, (∃ m, I m δ) ∧ ∀ m δ', I m δ' → t δ' fun b => if b = true then body { E with nx := fun δ2 => ∃ m', m' < m ∧ I m' δ2, ct := fun δ2 => ∃ m', m' < m ∧ I m' δ2, bk := E.nx } δ' else E.nx δ'
section
variable {T : Tb} {X : Cx} {tg it c : Expr} {body : List Stmt} {ai : AI} {ag : AG} {s : AS} {at_ : AT} {ks : List Nat} {pos : Pos}
theorem s_for (hp : PassesOwn (model X.prog X.w) X.A X.env X.xe) (hc : X.calm = true) (hi : PI X tg it (rdI T ai)) (hg : PG X tg (rdG T ks ag)) (hb : PSs X body (rdS T s))
    (hs : ∀ x, foldedSetIterable it X.env x = pure x := by intro _; rfl) : PS X (.For tg it body [] pos) (rdS T (aFor ai ag s)) := (ps_for hp hc hi hg hb hs).mono fun D σ H h => by
  obtain ⟨G, F, δ, E, R, h, k⟩ := h
  refine ⟨G, F, δ, _, R, h, fun ds hd J F1 H1 g W => ?_⟩
  obtain ⟨I, h0, hs, he⟩ := hd
  obtain ⟨Gd, Y, w, stb, yy⟩ := W
  refine for_it w (fun i σ' H' => ∃ F' δ', Same F1 F' ∧ RepS T G F' H' σ' δ' ∧ I i δ') ⟨F1, δ, Same.refl _, R.go g, h0⟩ (fun i σ' H' _ ⟨F', δ', s, R', _⟩ => stb F' H' σ' δ' s R') ?_ ?_
  · rintro i x σ' H' H2 hi ⟨F', δ', sm, R', hI⟩ hy
    obtain ⟨rfl, d, hd, rd⟩ := yy i H' x H2 hi (stb F' H' σ' δ' sm R') hy
    refine ⟨G, F', δ', _, d, R', rd F' sm R'.ex, hs i d δ' hd hI, fun δ2 q σ2 _ R2 => ?_⟩
    refine ⟨G, F', δ2, _, R2, q, ?_⟩
    exact ⟨fun δ3 q3 F3 H3 σ3 s3 R3 => ⟨F3, δ3, sm.trans s3, R3, q3⟩, fun w δ3 q3 v F3 H3 σ3 s3 => k.rt w δ3 q3 v F3 H3 σ3 (g.f.trans (sm.trans s3)),
      fun δ3 q3 F3 H3 σ3 s3 => k.nx δ3 q3 F3 H3 σ3 (g.f.trans (sm.trans s3)), fun δ3 q3 F3 H3 σ3 s3 R3 => ⟨F3, δ3, sm.trans s3, R3, q3⟩⟩
  · rintro σ' H' ⟨F', δ', sm, R', hI⟩
    exact k.nx _ (he δ' hI) F' H' σ' (g.f.trans sm) R'
theorem s_while (hp : PassesOwn (model X.prog X.w) X.A X.env X.xe) (hc : PT X c (rdT T at_)) (hb : PSs X body (rdS T s)) : PS X (.While c body [] pos) (rdS T (aWhile at_ s)) := (ps_while hp hc hb).mono fun D σ H h => by
  obtain ⟨G, F, δ, E, R, ⟨I, ⟨m, h0⟩, hs⟩, k⟩ := h
  refine ⟨fun m σ' H' => ∃ F' δ', Same F F' ∧ RepS T G F' H' σ' δ' ∧ I m δ', ⟨m, F, δ, Same.refl _, R, h0⟩, fun m σ' H' ⟨F', δ', sm, R', hI⟩ => ?_⟩
  refine ⟨G, F', δ', _, R', hs m δ' hI, fun b hb F2 H2 g => ?_⟩
  cases b with
  | true =>
    refine ⟨fun σ3 H3 => ∃ m', m' < m ∧ ∃ F' δ', Same F F' ∧ RepS T G F' H3 σ3 δ' ∧ I m' δ', fun σ3 H3 ⟨m', hm, q⟩ => ⟨m', hm, q⟩, G, F2, δ', _, R'.go g, hb, ?_⟩
    exact ⟨fun δ3 ⟨m', hm, q3⟩ F3 H3 σ3 s3 R3 => ⟨m', hm, F3, δ3, sm.trans (g.f.trans s3), R3, q3⟩, fun w δ3 q3 v F3 H3 σ3 s3 => k.rt w δ3 q3 v F3 H3 σ3 (sm.trans (g.f.trans s3)),
      fun δ3 q3 F3 H3 σ3 s3 => k.nx δ3 q3 F3 H3 σ3 (sm.trans (g.f.trans s3)), fun δ3 ⟨m', hm, q3⟩ F3 H3 σ3 s3 R3 => ⟨m', hm, F3, δ3, sm.trans (g.f.trans s3), R3, q3⟩⟩
  | false => exact k.nx _ hb F2 H2 _ (sm.trans g.f) (R'.go g)
end
end Vl
namespace Vl
open PySem PySem.Spec PyProof.Rows L2

/-! ### comprehensions -/
def wipeA (δ : List AV) : List Nat → List AV
  | [] => δ
  | v :: vs => (wipeA δ vs).set v .non
def lcGo (g : AG) (t : AT) (e : AE) (δ : List AV) : List D → List D → (W → Prop) → Prop
  | [], acc, Q => Q (.fr (.fl acc))
  | d :: ds, acc, Q => g d δ fun δ2 => t δ2 fun b => if b = true then e δ2 fun w => match argW w with
      | .cl y => acc.length < 1000000 ∧ lcGo g t e δ ds (acc ++ [y]) Q
      | _ => False
    else lcGo g t e δ ds acc Q
def aLc (ai : AI) (g : AG) (t : AT) (e : AE) (vs : List Nat) : AE := fun δ Q => ai δ fun ds => lcGo g t e (wipeA δ vs) ds [] Q
def aYes : AT := fun _ Q => Q true
section
variable {T : Tb} {X : Cx} {G : Gx} {F F' F1 H H' H1 : Hp} {σ σ' : L2.St} {δ : List AV} {p : Addr} {vs ks : List Nat}
theorem RepS.wipe (R : RepS T G F H σ δ) : ∀ vs : List Nat, RepS T G F H (wipe σ vs) (wipeA δ vs)
  | [] => R
  | v :: vs => by
    have R' := RepS.wipe R vs
    show RepS T G F H ((L2.wipe σ vs).set v none) ((wipeA δ vs).set v .non)
    refine ⟨R'.ex, R'.fr, R'.th, R'.lh, R'.f0, R'.fn, by rw [List.length_set, List.length_set]; exact R'.len, fun j => ?_, fun j k l l' m m' e1 e2 e3 => ?_⟩
    · by_cases hi : v < (L2.wipe σ vs).length
      · have hi' : v < (wipeA δ vs).length := R'.len ▸ hi
        rw [gs_set hi, gt_set hi']
        by_cases e : v = j
        · rw [if_pos e, if_pos e]; trivial
        · rw [if_neg e, if_neg e]; exact R'.sl j
      · have hi' : ¬ v < (wipeA δ vs).length := R'.len ▸ hi
        rw [gs_out hi, gt_out hi']; exact R'.sl j
    · by_cases hi : v < (L2.wipe σ vs).length
      · have hi' : v < (wipeA δ vs).length := R'.len ▸ hi
        rw [gs_set hi, gs_set hi] at e3
        rw [gt_set hi'] at e1 e2
        by_cases ej : v = j
        · rw [if_pos ej] at e1; cases e1
        · by_cases ek : v = k
          · rw [if_pos ek] at e2; cases e2
          · rw [if_neg ej] at e1 e3; rw [if_neg ek] at e2 e3
            exact R'.dj j k l l' m m' e1 e2 e3
      · have hi' : ¬ v < (wipeA δ vs).length := R'.len ▸ hi
        rw [gs_out hi] at e3
        rw [gt_out hi'] at e1 e2
        exact R'.dj j k l l' m m' e1 e2 e3
/-- an object that no slot has -/
theorem RepS.side {o : HO} (R : RepS T G F H σ δ) (hf : F p = none) (h0 : G.H0 p = none) (hL : p ∉ G.L) (hs : ∀ i l m, gt δ i = .ow l m → gs σ i ≠ some (.ref p)) : RepS T G F (upd H p o) σ δ := by
  have own_keep : ∀ {q : Addr} {m2 : M}, q ≠ p → Own T F H q m2 → Own T F (upd H p o) q m2 := fun {q m2} hq ⟨a, b, c, d⟩ => ⟨a, b, by rw [upd_ne hq]; exact c, d⟩
  refine ⟨fun a x h1 => ?_, fun a x h1 h2 => ?_, fun a h1 => ?_, R.lh, R.f0, R.fn, R.len, fun j => ?_, R.dj⟩
  · rw [upd_ne (ne_of_none h1 hf)]; exact R.ex _ _ h1
  · rw [upd_ne (ne_of_none h1 h0)]; exact R.fr a x h1 h2
  · by_cases q : a = p
    · subst q; rw [upd_same]; simp
    · rw [upd_ne q]; exact R.th a h1
  · have q := R.sl j
    revert q
    generalize hg : gt δ j = aj
    intro q
    cases aj with
    | non => trivial
    | im d => exact q
    | bw m2 =>
      obtain ⟨q', e1, h1, h2, h3⟩ := q
      exact ⟨q', e1, h1, h2, own_keep (fun z => h2 (by rw [z]; exact h0)) h3⟩
    | ow l2 m2 =>
      obtain ⟨q', e1, h1, h3⟩ := q
      exact ⟨q', e1, h1, own_keep (fun z => hs j l2 m2 hg (by rw [e1, z])) h3⟩
theorem Go.side {o : HO} (g : Go F H F' H') (hp : H p = none) (hf : F' p = none) : Go F H F' (upd H' p o) := by
  refine ⟨fun b x e => ?_, g.f, fun b x e => ?_, g.n⟩
  · rw [upd_ne (ne_of_none e hp)]; exact g.h _ _ e
  · rw [upd_ne (ne_of_none e hf)]; exact g.ex _ _ e
theorem wipe_keep (hk : ∀ i ∈ ks, i ∈ vs) (k : Keep ks (wipe σ vs) σ') : wipe σ' vs = wipe σ vs := by
  apply List.ext_getElem?
  intro i
  by_cases hi : i ∈ vs
  · have out : ∀ (τ : L2.St), τ.length = σ.length → (wipe τ vs)[i]? = if i < σ.length then some none else none := fun τ hl => by
      cases e : (wipe τ vs)[i]? with
      | none =>
        have := List.getElem?_eq_none_iff.mp e
        rw [wipe_length, hl] at this
        rw [if_neg (by omega)]
      | some x =>
        have := (List.getElem?_eq_some_iff.mp e).1
        rw [wipe_length, hl] at this
        rw [if_pos this]
        cases x with
        | none => rfl
        | some x => exact absurd hi (wipe_some e).2
    rw [out σ' (by rw [k.1, wipe_length]), out σ rfl]
  · rw [wipe_out hi, k.2 i fun h => hi (hk i h)]
def rdTs (T : Tb) (a : AT) : TT := rdT T a
theorem ts_nil {Y : Cx} : PTs Y [] (rdT T aYes) := ⟨fun pins s σ H Q I h => by
  obtain ⟨G, F, δ, P, R, h, k⟩ := h
  exact (pts_nil (X := Y)).run pins s σ H Q I (k _ h F H (Go.refl R.ex))⟩
theorem ts_one {Y : Cx} {c : Expr} {t : AT} (h : PT Y c (rdT T t)) : PTs Y [c] (rdT T t) := pts_one h
theorem rd_lc {ai : AI} {ag : AG} {t : AT} {e : AE} (hk : ∀ i ∈ ks, i ∈ vs) {Q : VK} (h : rdE T (aLc ai ag t e vs) σ H Q) : tLc (rdI T ai) (rdG T ks ag) (rdT T t) (rdE T e) vs σ H Q := by
  obtain ⟨G, F, δ, P, R, h, k⟩ := h
  refine ⟨G, F, δ, _, R, h, fun ds hd J F1 H1 g W => fun DD hD => ?_⟩
  obtain ⟨Gd, Y, w, stb, yy⟩ := W
  have R1 := R.go g
  have hD0 : H DD = none := g.h.free hD
  have h00 : G.H0 DD = none := Classical.byContradiction fun q => R.th DD q hD0
  have hL : DD ∉ G.L := fun q => R.lh DD q h00
  have Rw := R1.wipe vs
  have hso : ∀ i l m, gt (wipeA δ vs) i = .ow l m → gs (wipe σ vs) i ≠ some (.ref DD) := fun i l m e1 e2 => by
    have q := Rw.sl i
    rw [e1] at q
    obtain ⟨p', e', _, o'⟩ := q
    rw [e2] at e'
    cases e'
    obtain ⟨_, e3, _⟩ := o'.ob
    rw [hD] at e3; cases e3
  have next : ∀ {F' H' : Hp} {acc : List D} {accV : List V} {y : D} {v : V} {i : Nat}, Go F1 H1 F' H' → F' DD = none → H' DD = some (.lst accV) → Reps T F' accV acc → Rep T F' v y → lcGo ag t e (wipeA δ vs) (ds.drop (i + 1)) (acc ++ [y]) P →
      ∃ F2 acc accV2, Go F1 H1 F2 (upd H' DD (.lst (accV ++ [v]))) ∧ F2 DD = none ∧ (upd H' DD (.lst (accV ++ [v]))) DD = some (.lst accV2) ∧ Reps T F2 accV2 acc ∧ lcGo ag t e (wipeA δ vs) (ds.drop (i + 1)) acc P :=
    fun {F' H' acc accV y v i} g1 f1 h1 r1 ry q => ⟨F', acc ++ [y], accV ++ [v], g1.side hD f1, f1, upd_same, r1.snoc ry, q⟩
  have hRR : ∀ {F' H' : Hp}, Go F1 H1 F' H' → F' DD = none → RepS T G F' H' (wipe σ vs) (wipeA δ vs) := fun g1 _ => Rw.go g1
  refine lc_it w (fun i H' => ∃ F' acc accV, Go F1 H1 F' H' ∧ F' DD = none ∧ H' DD = some (.lst accV) ∧ Reps T F' accV acc ∧ lcGo ag t e (wipeA δ vs) (ds.drop i) acc P) ⟨F1, [], [], (Go.refl g.ex).lay hD, g.ex.free hD, upd_same, .nil, hd⟩
    (fun i H' _ ⟨F', _, _, g1, _⟩ => stb F' H' _ _ g1.f (Rw.go g1)) ?_ ?_
  · rintro i x H' H2 hi ⟨F', acc, accV, g1, f1, h1, r1, hq⟩ hy
    have R' := Rw.go g1
    obtain ⟨rfl, d, hd, rd⟩ := yy i H' x H2 hi (stb F' H' _ _ g1.f R') hy
    have e1 : ds.drop i = d :: ds.drop (i + 1) := by
      obtain ⟨hl, he⟩ := List.getElem?_eq_some_iff.mp hd
      rw [List.drop_eq_getElem_cons hl, he]
    rw [e1] at hq
    unfold lcGo at hq
    refine ⟨G, F', _, _, d, R', rd F' g1.f g1.ex, hq, fun δ2 q σ2 kp R2 => ⟨wipe_keep hk kp, ?_⟩⟩
    refine ⟨G, F', δ2, _, R2, q, fun b hb F3 H3 g3 => ?_⟩
    have f3 : F3 DD = none := (g3.n DD (by rw [h1]; simp)).trans f1
    have h3 : H3 DD = some (.lst accV) := g3.h _ _ h1
    cases b with
    | true =>
      rw [if_pos rfl] at hb
      refine iteT ?_
      refine ⟨G, F3, δ2, _, R2.go g3, hb, fun w hw v F4 H4 g4 r4 => ?_⟩
      obtain ⟨F5, g5, _, s5, r5, n5⟩ := RepW.arg g4 r4
      split at hw
      · rename_i y hy
        rw [hy] at r5
        have h5 : H4 DD = some (.lst accV) := g4.h _ _ h3
        have f5 : F5 DD = none := (g5.n DD (by rw [h3]; simp)).trans f3
        exact ⟨accV, h5, by rw [r1.length]; exact dSz_lt hw.1, next (g1.trans (g3.trans g5)) f5 h5 (r1.mono (g3.f.trans g5.f)) r5 hw.2⟩
      · exact hw.elim
    | false =>
      rw [if_neg Bool.false_ne_true] at hb
      refine iteF ?_
      exact ⟨F3, acc, accV, g1.trans g3, f3, h3, r1.mono g3.f, hb⟩
  · rintro H' ⟨F', acc, accV, g1, f1, h1, r1, hq⟩
    rw [List.drop_length] at hq
    unfold lcGo at hq
    exact k _ hq _ F' H' (g.trans g1) ⟨DD, rfl, hD0, f1, _, h1, accV, rfl, r1⟩
theorem e_lc {elt tg iter : Expr} {ifs : List Expr} {scope : Scope} {own : List (Str × Nat)} {pos : Pos} {ai : AI} {ag : AG} {t : AT} {e : AE} (hc : X.calm = true) (hN : X.N.Nodup) (hi : PI X tg iter (rdI T ai)) (ok : BlkOk X.N X.env.scope scope own) (hk : ∀ i ∈ ks, i ∈ own.map (·.2))
    (hg : ∀ (s : Shared) (H : Hp) (C : Addr) (cl : List (Str × Addr)) (fp : List Addr), PG (X.blk s H scope (compEnvC scope cl C X.env) fp) tg (rdG T ks ag)) (ht : ∀ (s : Shared) (H : Hp) (C : Addr) (cl : List (Str × Addr)) (fp : List Addr), PTs (X.blk s H scope (compEnvC scope cl C X.env) fp) ifs (rdT T t))
    (he : ∀ (s : Shared) (H : Hp) (C : Addr) (cl : List (Str × Addr)) (fp : List Addr), PE (X.blk s H scope (compEnvC scope cl C X.env) fp) elt (rdE T e)) (hs : ∀ x, foldedSetIterable iter X.env x = pure x := by intro _; rfl) :
    PE X (.ListComp elt [⟨tg, iter, ifs, 0⟩] scope pos) (rdE T (aLc ai ag t e (own.map (·.2)))) := (pe_lc hc hN hi ok hg ht he hs).mono fun _ _ _ h => rd_lc hk h
theorem s_setLc {i : Nat} {y : Str} {py : Pos} {elt tg iter : Expr} {ifs : List Expr} {scope : Scope} {own : List (Str × Nat)} {pos spos : Pos} {ai : AI} {ag : AG} {t : AT} {e : AE} (hc : X.calm = true) (hN : X.N.Nodup) (hy : X.N[i]? = some y) (hyl : X.env.scope.names.lookup y = some .local)
    (hsw : swapsWith (.ListComp elt [⟨tg, iter, ifs, 0⟩] scope pos) (some (.Name y py)) spos.line X.env = pure true) (hi : PI X tg iter (rdI T ai)) (ok : BlkOk X.N X.env.scope scope own) (hk : ∀ i ∈ ks, i ∈ own.map (·.2))
    (hg : ∀ (s : Shared) (H : Hp) (C : Addr) (cl : List (Str × Addr)) (fp : List Addr), PG (X.blk s H scope (compEnvC scope cl C X.env) fp) tg (rdG T ks ag)) (ht : ∀ (s : Shared) (H : Hp) (C : Addr) (cl : List (Str × Addr)) (fp : List Addr), PTs (X.blk s H scope (compEnvC scope cl C X.env) fp) ifs (rdT T t))
    (he : ∀ (s : Shared) (H : Hp) (C : Addr) (cl : List (Str × Addr)) (fp : List Addr), PE (X.blk s H scope (compEnvC scope cl C X.env) fp) elt (rdE T e)) (hs : ∀ x, foldedSetIterable iter X.env x = pure x := by intro _; rfl) :
    PS X (.Assign [.Name y py] (.ListComp elt [⟨tg, iter, ifs, 0⟩] scope pos) spos) (rdS T (aSet i (aLc ai ag t e (own.map (·.2))))) := (ps_setLc hc hN hy hyl hsw hi ok hg ht he hs).mono fun D σ H h => by
  obtain ⟨G, F, δ, E, R, h, k⟩ := h
  refine rd_lc hk ⟨G, F, δ, _, R, h, fun w hw v F1 H1 g r => ?_⟩
  split at hw
  · rename_i a ha
    exact k.nx _ hw F1 H1 _ g.f (R.store g r ha)
  · exact hw.elim
end

/-! ### slices -/
def cutD (ds : List D) (lo hi : Option Int) : List D := (ds.drop (HT.sIx ds.length 0 lo)).take (HT.sIx ds.length ds.length hi - HT.sIx ds.length 0 lo)
abbrev AO := List AV → (Option Int → Prop) → Prop
def aoN : AO := fun _ Q => Q none
def aoS (e : AE) : AO := fun δ Q => e δ fun w => match w with
  | .cl (.int i) => Q (some i)
  | _ => False
def aSl (e : AE) (lo hi : AO) : AE := fun δ Q => e δ fun w => lo δ fun l => hi δ fun h => match lstC w with
  | some ds => Q (.fr (.fl (cutD ds l h)))
  | none => False
def rdO (T : Tb) (a : AO) : TO := fun σ H Q => ∃ G F δ P, RepS T G F H σ δ ∧ a δ P ∧ ∀ o, P o → ∀ F' H', Go F H F' H' → Q o H'
theorem _root_.L2.PO.mono {X : Cx} {e : Option Expr} {t t' : TO} (h : PO X e t) (k : ∀ σ H Q, t' σ H Q → t σ H Q) : PO X e t' := by
  constructor
  intro pins s σ H Q I q
  exact h.run pins s σ H Q I (k σ H Q q)
section
variable {T : Tb} {X : Cx} {e : Expr} {x : AE} {pos p2 : Pos}
theorem o_none : PO X none (rdO T aoN) := po_none.mono fun σ H Q h => by
  obtain ⟨G, F, δ, P, R, h, k⟩ := h
  exact k _ h F H (Go.refl R.ex)
theorem o_some (h : PE X e (rdE T x)) : PO X (some e) (rdO T (aoS x)) := (po_some h).mono fun σ H Q h => by
  obtain ⟨G, F, δ, P, R, h, k⟩ := h
  refine ⟨G, F, δ, _, R, h, fun w hw v F1 H1 g r => ?_⟩
  split at hw
  · exact ⟨_, rep_int r, k _ hw _ _ g⟩
  · exact hw.elim
theorem e_sl {lo hi : Option Expr} {l h : AO} (hTK : T.K = X.K) (he : PE X e (rdE T x)) (hl : PO X lo (rdO T l)) (hh : PO X hi (rdO T h)) : PE X (.Subscript e (.Slice lo hi none p2) pos) (rdE T (aSl x l h)) := (pe_slice sl_list he hl hh).mono fun σ H Q h => by
  obtain ⟨G, F, δ, P, R, h, k⟩ := h
  refine ⟨G, F, δ, _, R, h, fun w hw v F1 H1 g r => ?_⟩
  refine ⟨G, F1, δ, _, R.go g, hw, fun lo hlo F2 H2 g2 => ?_⟩
  refine ⟨G, F2, δ, _, (R.go g).go g2, hlo, fun hi hhi F3 H3 g3 => ?_⟩
  split at hhi
  · rename_i ds hd
    have g13 := g2.trans g3
    obtain ⟨p, vs, rfl, hp, rr⟩ := (r.go g13).lst g13.ex hd
    refine ⟨p, vs, rfl, hTK ▸ hp, fun q hq => ?_⟩
    refine new_list (ds := cutD ds lo hi) (g.trans g13) ?_ hhi k hq
    unfold cutV cutD
    rw [rr.length]
    exact (rr.drop _).take _
  · exact hhi.elim
end

/-! ### a chain of two comparisons of ints -/
def aChain (p p' : Int → Int → Bool) (a b c : AE) : AE := fun δ Q => a δ fun x => match x with
  | .cl (.int i) => b δ fun y => match y with
    | .cl (.int j) => if p i j = true then c δ fun z => match z with
        | .cl (.int k) => Q (.cl (.bl (p' j k)))
        | _ => False
      else Q (.cl (.bl false))
    | _ => False
  | _ => False
section
variable {T : Tb} {X : Cx} {a b c : Expr} {x y z : AE} {pos : Pos} {p p' : Int → Int → Bool}
theorem rd_chain {σ : L2.St} {H : Hp} {Q : VK} (h : rdE T (aChain p p' x y z) σ H Q) : tChain (rI0 fun i j => .bl (p i j)) (rI0 fun i j => .bl (p' i j)) (rdE T x) (rdE T y) (rdE T z) σ H Q := by
  obtain ⟨G, F, δ, P, R, h, k⟩ := h
  refine ⟨G, F, δ, _, R, h, fun u hu v F1 H1 g r1 => ?_⟩
  split at hu
  · rename_i i
    refine ⟨G, F1, δ, _, R.go g, hu, fun u2 hu2 v2 F2 H2 g2 r2 => ?_⟩
    split at hu2
    · rename_i j
      refine ⟨i, j, rep_int r1, rep_int r2, p i j, rfl, ?_⟩
      cases hp : p i j with
      | true =>
        rw [hp, if_pos rfl] at hu2
        refine iteT ⟨G, F2, δ, _, (R.go g).go g2, hu2, fun u3 hu3 v3 F3 H3 g3 r3 => ?_⟩
        split at hu3
        · rename_i l
          exact ⟨j, l, rep_int r2, rep_int r3, k _ hu3 _ F3 H3 (g.trans (g2.trans g3)) (.bl _)⟩
        · exact hu3.elim
      | false =>
        rw [hp, if_neg Bool.false_ne_true] at hu2
        exact iteF (k _ hu2 _ F2 H2 (g.trans g2) (.bl _))
    · exact hu2.elim
  · exact hu.elim
theorem e_chain {op op' : CmpOp} (ho : OpR X (compareOp op) (rI0 fun i j => .bl (p i j))) (ho' : OpR X (compareOp op') (rI0 fun i j => .bl (p' i j))) (ha : PE X a (rdE T x)) (hb : PE X b (rdE T y)) (hc : PE X c (rdE T z))
    (hm : lastMarks [op, op'] [b, c] = false := by rfl) : PE X (.Compare a [op, op'] [b, c] pos) (rdE T (aChain p p' x y z)) := (pe_chain ho ho' ha hb hc hm).mono fun σ H Q h => rd_chain h
theorem t_chain {op op' : CmpOp} (ho : OpR X (compareOp op) (rI0 fun i j => .bl (p i j))) (ho' : OpR X (compareOp op') (rI0 fun i j => .bl (p' i j))) (ha : PE X a (rdE T x)) (hb : PE X b (rdE T y)) (hc : PE X c (rdE T z))
    (hm : lastMarks [op, op'] [b, c] = false := by rfl) : PT X (.Compare a [op, op'] [b, c] pos) (rdT T (aB (aChain p p' x y z))) := (pt_chain ho ho' ha hb hc hm).mono fun σ H Q h => by
  obtain ⟨G, F, δ, P, R, h, k⟩ := h
  refine rd_chain ⟨G, F, δ, _, R, h, fun w hw v F1 H1 g r => ?_⟩
  split at hw
  · exact ⟨_, rep_bl r, k _ hw _ _ g⟩
  · exact hw.elim
end

/-! ### own lists and dicts are changed -/
def tyM : M → String
  | .fl _ => "list"
  | .fd _ _ => "dict"
/-- a method of an own object: what it becomes, what is handed back -/
abbrev FM := M → List W → (M → D → Prop) → Prop
def MutV (T : Tb) (r : V → List V → Hp → VK → Prop) (f : FM) : Prop := ∀ (G : Gx) (F H : Hp) (p : Addr) (m : M) (o : HO) (xs : List V) (ws : List W) (P : M → D → Prop) (Q : VK), Same F H → H p = some o → MObj T F m o → RepAs T G F H xs ws → f m ws P →
  (∀ m' d, P m' d → ∀ v o', MObj T F m' o' → Rep T F v d → Q v (upd H p o')) → r (.ref p) xs H Q
/-- x.m(..) as a statement of its own -/
def aMut (ty : String) (i : Nat) (f : FM) (es : AA) : AS := fun E δ => match gt δ i with
  | .ow l m => tyM m = ty ∧ es δ fun ws => f m ws fun m' _ => E.nx (δ.set i (.ow l m'))
  | _ => False
/-- y = x.m(..) -/
def aMutS (ty : String) (j i : Nat) (f : FM) (es : AA) : AS := fun E δ => match gt δ i with
  | .ow l m => tyM m = ty ∧ es δ fun ws => f m ws fun m' d => E.nx ((δ.set i (.ow l m')).set j (.im d))
  | _ => False
def clW : W → Option D := fun w => match argW w with
  | .cl d => some d
  | _ => none
/-- xs[k] = e -/
def aSetIx (i : Nat) (k e : AE) : AS := fun E δ => match gt δ i with
  | .ow l (.fl ds) => e δ fun w => k δ fun z => match clW w, z with
    | some d, .cl (.int z) => match ixN ds.length z with
      | some j => E.nx (δ.set i (.ow l (.fl (ds.set j d))))
      | none => False
    | _, _ => False
  | _ => False
def mAppend : FM := fun m ws P => match m, ws with
  | .fl ds, [.cl d] => ds.length < 1000000 ∧ P (.fl (ds ++ [d])) .non
  | _, _ => False
def mPop : FM := fun m ws P => match m, ws with
  | .fl ds, [] => match ds[ds.length - 1]? with
    | some d => P (.fl ds.dropLast) d
    | none => False
  | _, _ => False
def mPopAt : FM := fun m ws P => match m, ws with
  | .fl ds, [.cl (.int i)] => (0 ≤ i ∧ i < 2 ^ 63) ∧ match ds[i.toNat]? with
    | some d => P (.fl (ds.eraseIdx i.toNat)) d
    | none => False
  | _, _ => False
def mReverse : FM := fun m ws P => match m, ws with
  | .fl ds, [] => P (.fl ds.reverse) .non
  | _, _ => False
section
variable {T : Tb} {X : Cx} {G : Gx} {F H : Hp} {σ : L2.St} {δ : List AV} {l : Bool} {m : M} {i j : Nat} {Ty : String} {r : V → List V → Hp → VK → Prop} {f : FM} {xs : AA}
theorem RepS.own {ds : List D} (R : RepS T G F H σ δ) (h : gt δ i = .ow l (.fl ds)) : ∃ p vs, gs σ i = some (.ref p) ∧ H p = some (.lst vs) ∧ Reps T F vs ds ∧ (∀ F' H', Go F H F' H' → H' p = some (.lst vs)) := by
  have q := R.sl i
  rw [h] at q
  obtain ⟨p, e, _, o⟩ := q
  obtain ⟨vs, h1, r⟩ := o.fl
  exact ⟨p, vs, e, h1, r, fun F' H' g => g.h _ _ h1⟩
theorem ty_own {K : PySem.W.Frag} {p : Addr} {o : HO} (h : H p = some o) (mo : MObj T F m o) : tyV K (tyM m) (.ref p) H := by
  cases m with
  | fl ds => obtain ⟨vs, rfl, _⟩ := mo; exact .inl ⟨rfl, vs, SqL.of h⟩
  | fd ks ds =>
    refine .inr (.inr (.inl ⟨rfl, ?_⟩))
    rcases mo with ⟨kvs, rfl, _⟩ | ⟨kvs, rfl, _⟩
    · exact .inl ⟨_, h⟩
    · exact .inr ⟨_, h⟩
theorem rd_mut (hf : MutV T r f) {P : M → D → Prop} {K : PySem.W.Frag} (hTK : T.K = K) (R : RepS T G F H σ δ) (hg : gt δ i = .ow l m) (ht : tyM m = Ty) (h : xs δ fun ws => f m ws P) {Q : VK}
    (k : ∀ m' d, P m' d → ∀ v F' H', Same F F' → RepS T G F' H' σ (δ.set i (.ow l m')) → Rep T F' v d → Q v H') :
    tBM K Ty r (tVar i) (rdA T xs) σ H Q := by
  have q := R.sl i
  rw [hg] at q
  obtain ⟨p, e, _, ow⟩ := q
  obtain ⟨o, ho, mo⟩ := ow.ob
  refine ⟨.ref p, gs_some e, ?_, ?_⟩
  · rw [← ht]; exact ty_own ho mo
  · refine ⟨G, F, δ, _, R, h, fun ws hw vs F1 H1 g ra => ?_⟩
    have R1 := R.go g
    have ho1 := g.h _ _ ho
    refine hf G F1 H1 p m o vs ws P Q g.ex ho1 (mo.mono g.f) ra hw fun m' d hP v o' mo' rv => ?_
    exact k m' d hP v F1 _ g.f (R1.mut hg e mo') rv
theorem rd_mut0 (hf : MutV T r f) {P : M → D → Prop} {K : PySem.W.Frag} (R : RepS T G F H σ δ) (hg : gt δ i = .ow l m) (ht : tyM m = Ty) (h : f m [] P) {Q : VK}
    (k : ∀ m' d, P m' d → ∀ v F' H', Same F F' → RepS T G F' H' σ (δ.set i (.ow l m')) → Rep T F' v d → Q v H') :
    tBM0 K Ty r (tVar i) σ H Q := by
  have q := R.sl i
  rw [hg] at q
  obtain ⟨p, e, _, ow⟩ := q
  obtain ⟨o, ho, mo⟩ := ow.ob
  refine ⟨.ref p, gs_some e, by rw [← ht]; exact ty_own ho mo, ?_⟩
  refine hf G F H p m o [] [] P Q R.ex ho mo .nil h fun m' d hP v o' mo' rv => ?_
  exact k m' d hP v F _ (Same.refl _) (R.mut hg e mo') rv
variable {st : Stmt} {K : PySem.W.Frag}
theorem s_mut (hf : MutV T r f) (hTK : T.K = K) (h : PS X st (tDrop (tBM K Ty r (tVar i) (rdA T xs)))) : PS X st (rdS T (aMut Ty i f xs)) := h.mono fun D' σ H h => by
  obtain ⟨G, F, δ, E, R, h, k⟩ := h
  unfold aMut at h
  split at h
  · rename_i l m hg
    exact rd_mut hf hTK R hg h.1 h.2 fun m' d hP v F' H' s R' _ => k.nx _ hP F' H' _ s R'
  · exact h.elim
theorem s_mut0 (hf : MutV T r f) (h : PS X st (tDrop (tBM0 K Ty r (tVar i)))) : PS X st (rdS T (aMut Ty i f aNil)) := h.mono fun D' σ H h => by
  obtain ⟨G, F, δ, E, R, h, k⟩ := h
  unfold aMut at h
  split at h
  · rename_i l m hg
    exact rd_mut0 hf R hg h.1 h.2 fun m' d hP v F' H' s R' _ => k.nx _ hP F' H' _ s R'
  · exact h.elim
theorem s_mutS (hf : MutV T r f) (hTK : T.K = K) (h : PS X st (tAsg (tBM K Ty r (tVar i) (rdA T xs)) (gName j))) : PS X st (rdS T (aMutS Ty j i f xs)) := h.mono fun D' σ H h => by
  obtain ⟨G, F, δ, E, R, h, k⟩ := h
  unfold aMutS at h
  split at h
  · rename_i l m hg
    exact rd_mut hf hTK R hg h.1 h.2 fun m' d hP v F' H' s R' rv => k.nx _ hP F' H' _ s (R'.put (a := .im d) ⟨v, rfl, rv⟩ fun _ _ e => nomatch e)
  · exact h.elim
theorem s_mutS0 (hf : MutV T r f) (h : PS X st (tAsg (tBM0 K Ty r (tVar i)) (gName j))) : PS X st (rdS T (aMutS Ty j i f aNil)) := h.mono fun D' σ H h => by
  obtain ⟨G, F, δ, E, R, h, k⟩ := h
  unfold aMutS at h
  split at h
  · rename_i l m hg
    exact rd_mut0 hf R hg h.1 h.2 fun m' d hP v F' H' s R' rv => k.nx _ hP F' H' _ s (R'.put (a := .im d) ⟨v, rfl, rv⟩ fun _ _ e => nomatch e)
  · exact h.elim
theorem m_append : MutV T rAppend mAppend := by
  intro G F H p m o xs ws P Q sm ho mo ra h k
  unfold mAppend at h
  split at h
  · rename_i ds d
    obtain ⟨vs, rfl, r⟩ := mo
    cases ra with
    | cons r2 t =>
      cases t
      exact ⟨p, vs, _, rfl, rfl, ho, by rw [r.length]; exact dSz_lt h.1, k _ _ h.2 _ _ ⟨_, rfl, r.snoc r2⟩ .non⟩
  · exact h.elim
theorem m_pop : MutV T rPop mPop := by
  intro G F H p m o xs ws P Q sm ho mo ra h k
  unfold mPop at h
  split at h
  · rename_i ds
    obtain ⟨vs, rfl, r⟩ := mo
    cases ra
    split at h
    · rename_i d hd
      obtain ⟨v, hv, rv⟩ := r.getD hd
      rw [← r.length] at hv
      exact ⟨p, vs, v, rfl, rfl, ho, hv, k _ _ h _ _ ⟨_, rfl, r.dropLast⟩ rv⟩
    · exact h.elim
  · exact h.elim
theorem m_popAt : MutV T rPopAt mPopAt := by
  intro G F H p m o xs ws P Q sm ho mo ra h k
  unfold mPopAt at h
  split at h
  · rename_i ds i
    obtain ⟨vs, rfl, r⟩ := mo
    obtain ⟨⟨h0, h1⟩, h⟩ := h
    split at h
    · rename_i d hd
      obtain ⟨v, hv, rv⟩ := r.getD hd
      have hl : i.toNat < vs.length := (List.getElem?_eq_some_iff.mp hv).1
      have hx : ixN vs.length i = some i.toNat := by
        unfold ixN
        rw [if_pos h0, if_pos (by omega)]
      cases ra with
      | cons r2 t =>
        cases t
        exact ⟨p, vs, i, i.toNat, v, rfl, by rw [rep_int r2], ho, by omega, h1, (ixN_seq hx).1, hv, k _ _ h _ _ ⟨_, rfl, r.eraseIdx _⟩ rv⟩
    · exact h.elim
  · exact h.elim
theorem m_reverse : MutV T rReverse mReverse := by
  intro G F H p m o xs ws P Q sm ho mo ra h k
  unfold mReverse at h
  split at h
  · rename_i ds
    obtain ⟨vs, rfl, r⟩ := mo
    cases ra
    exact ⟨p, vs, rfl, rfl, ho, k _ _ h _ _ ⟨_, rfl, r.reverse⟩ .non⟩
  · exact h.elim
theorem clW_rep {F' H' : Hp} {v : V} {w : W} {d : D} (g : Go F H F' H') (r : RepW T G H F' H' v w) (h : clW w = some d) : ∃ F2, Go F H F2 H' ∧ Rep T F2 v d := by
  obtain ⟨F2, g2, _, _, r2, _⟩ := RepW.arg g r
  unfold clW at h
  split at h
  · rename_i d' hd
    cases h
    rw [hd] at r2
    exact ⟨F2, g2, r2⟩
  · cases h
theorem s_setIx {x kk : AE} (h : PS X st (tAsg (rdE T x) (gSub (tVar i) (rdE T kk) rSetL))) : PS X st (rdS T (aSetIx i kk x)) := h.mono fun D' σ H h => by
  obtain ⟨G, F, δ, E, R, h, k⟩ := h
  unfold aSetIx at h
  split at h
  · rename_i l ds hg
    refine ⟨G, F, δ, _, R, h, fun w hw v F1 H1 g r1 => ?_⟩
    obtain ⟨p, vs, e, hp, rr, st⟩ := (R.go g).own hg
    refine ⟨.ref p, gs_some e, G, F1, δ, _, R.go g, hw, fun z hz kv F2 H2 g2 r2 => ?_⟩
    split at hz
    · rename_i d z hd
      split at hz
      · rename_i j hj
        obtain ⟨F3, g3, r3⟩ := clW_rep (g.trans g2) ((r1.go g2)) hd
        refine ⟨p, vs, z, j, rfl, rep_int r2, st _ _ g2, by rw [rr.length]; exact hj, ?_⟩
        have R3 := R.go g3
        refine k.nx _ hz F3 _ σ g3.f (R3.mut hg e ⟨_, rfl, Reps.set j ?_ r3⟩)
        obtain ⟨p', vs', e', hp', rr', _⟩ := R3.own hg
        rw [e] at e'
        cases e'
        rw [st _ _ g2] at hp'
        cases hp'
        exact rr'
      · exact hz.elim
    · exact hz.elim
  · exact h.elim
end
end Vl
namespace Vl
open PySem PySem.Spec PyProof.Rows L2

/-! ### what a def promises -/
/-- from the arguments to what is wanted of the answer -/
abbrev Ct := List W → (W → Prop) → Prop
def spC (T : Tb) (c : Ct) : Sp := fun vs H Q _ => ∃ G F ws P, Same F H ∧ RepAs T G F H vs ws ∧ c ws P ∧ ∀ w, P w → ∀ v F' H', Go F H F' H' → RepR T H F' H' v w → Q v H'
def aCall (c : Ct) (es : AA) : AE := fun δ Q => es δ fun ws => c ws Q
def avOf : W → AV
  | .cl d => .im d
  | .bw m => .bw m
  | .ow m => .bw m
  | .fr _ => .non
def startA (n : Nat) (ws : List W) : List AV := ws.map avOf ++ List.replicate (n - ws.length) .non
section
variable {T : Tb} {X : Cx} {G : Gx} {F F' H H' Hs : Hp} {v : V} {w : W}
theorem RepR.toW : ∀ {w : W}, RepR T H F' H' v w → RepW T G H F' H' v w
  | .cl d, h => h
  | .fr m, h => h
  | .bw m, h => h.elim
  | .ow m, h => h.elim
theorem RepAs.length : ∀ {vs : List V} {ws : List W}, RepAs T G F H vs ws → vs.length = ws.length
  | _, _, .nil => rfl
  | _, _, .cons _ t => by simp [RepAs.length t]
theorem RepAs.get : ∀ {vs : List V} {ws : List W} {i : Nat} {w : W}, RepAs T G F H vs ws → ws[i]? = some w → ∃ v, vs[i]? = some v ∧ RepA T G F H v w
  | _, _, _, _, .nil, h => by simp at h
  | _, _, 0, _, .cons r _, h => by simp at h; subst h; exact ⟨_, rfl, r⟩
  | _, _, i + 1, _, .cons _ t, h => by simpa using RepAs.get (i := i) t (by simpa using h)
theorem rd_call {c : Ct} {xs : AA} {E : XK} {σ : L2.St} {Q : VK} (h : rdE T (aCall c xs) σ H Q) : tCall (spC T c) [] E (rdA T xs) σ H Q := by
  obtain ⟨G, F, δ, P, R, h, k⟩ := h
  refine ⟨G, F, δ, _, R, h, fun ws hw vs F1 H1 g r => ?_⟩
  show spC T c (vs ++ []) H1 Q E
  rw [List.append_nil]
  exact ⟨G, F1, ws, P, g.ex, r, hw, fun w hP v F2 H2 g2 r2 => k w hP v F2 H2 (g.trans g2) ((RepR.toW r2).back g.h)⟩
variable {k : Nat} {f C : Addr} {fd : FuncData} {ps : List Str} {x : Str} {p pos apos : Pos} {e o : Expr} {es : List Expr} {c : Ct} {xs : AA}
theorem e_call (Fn : FnOk X.prog X.w X.K X.mg X.base CX0 k f fd ps (spC T c)) (hr : Room k X.A) (hg : Gl X x) (hm : X.mg x = some (.ref f)) (hk : PySem.W.keepIn X.K (.ref f) = true) (hb : Binds X.K fd ps [])
    (ha : PA X (e :: es) (rdA T xs)) (hdb : (x == ("__debug__" : Str)) = false := by decide) (he : starEach (e :: es) X.env = (false, eval e X.env) :: starEach es X.env := by rfl) (hpl : (backTo pos (starEach es X.env)).any (·.1) = false := by rfl) :
    PE X (.Call (.Name x p) (e :: es) [] pos) (rdE T (aCall c xs)) :=
  (pe_call Fn hr hg hm hk hb .nil (E := E0) pass0 ha hdb he hpl).mono fun _ _ _ h => rd_call h
/-- the slots at the start -/
theorem repS_start {N : Nat} {vs : List V} {ws : List W} (sm : Same F H) (r : RepAs T G F H vs ws) (hN : ws.length ≤ N) (Nm : List Str) (hNm : Nm.length = N) : RepS T ⟨H, F, []⟩ F H (L2.start Nm vs) (startA N ws) := by
  have hl := r.length
  have hst : ∀ i, gs (L2.start Nm vs) i = vs[i]? := fun i => by
    unfold gs L2.start
    rw [List.getD_eq_getElem?_getD]
    by_cases hi : i < vs.length
    · rw [List.getElem?_append_left (by simpa using hi), List.getElem?_map]
      cases vs[i]? <;> rfl
    · rw [List.getElem?_append_right (by simpa using hi), List.getElem?_replicate, List.getElem?_eq_none_iff.mpr (by omega)]
      split <;> rfl
  have hgt : ∀ i, gt (startA N ws) i = ((ws[i]?).map avOf).getD .non := fun i => by
    unfold gt startA
    rw [List.getD_eq_getElem?_getD]
    by_cases hi : i < ws.length
    · rw [List.getElem?_append_left (by simpa using hi), List.getElem?_map]
    · rw [List.getElem?_append_right (by simpa using hi), List.getElem?_replicate, List.getElem?_eq_none_iff.mpr (show ws.length ≤ i by omega)]
      split <;> rfl
  refine ⟨sm, fun a o h _ => h, fun a h => h, fun a h => by simp at h, Same.refl _, fun a _ => rfl, ?_, fun i => ?_, fun i j l l' m m' e1 => ?_⟩
  · unfold startA L2.start
    simp [hl, hNm]
  · rw [hst, hgt]
    cases e : ws[i]? with
    | none => trivial
    | some w =>
      obtain ⟨v, hv, rv⟩ := r.get e
      rw [hv]
      cases w with
      | cl d => exact ⟨v, rfl, rv⟩
      | bw m =>
        obtain ⟨p, rfl, _, _, o⟩ := rv
        obtain ⟨ob, e1, _⟩ := o.ob
        exact ⟨p, rfl, by simp, (fun z => by cases e1.symm.trans z), o⟩
      | ow m =>
        obtain ⟨p, rfl, o⟩ := rv
        obtain ⟨ob, e1, _⟩ := o.ob
        exact ⟨p, rfl, by simp, (fun z => by cases e1.symm.trans z), o⟩
      | fr m => exact rv.elim
  · rw [hgt] at e1
    cases e : ws[i]? with
    | none => rw [e] at e1; cases e1
    | some w => rw [e] at e1; cases w <;> cases e1
variable {P : Program} {wd : World} {K : PySem.W.Frag} {mg : Str → Option Value} {base : Heap}
/-- THE RULE for a def: its body's reading over data, and what it comes to -/
theorem fn_ok {y qual : Str} {st : Stmt} {N ps : List Str} {a : AS} (Fn : Fun K y qual st f fd) (S : FnScope N ps (defScope st)) (len : ∀ ws P, c ws P → ws.length = ps.length) (hN : ps.length ≤ N.length)
    (hd : ∀ (cdv : Value) (A : Around) (outer : List Env) (s : Shared) (H : Hp) (E : XK), Room k (A.deeper (envOfC qual (defScope st) s.heap.objs.size f cdv)) →
      PSs (cxOf CX0 P wd K mg base N qual (defScope st) f cdv A outer s H E).nox (defBody st) (rdS T a))
    (hw : ∀ ws P, c ws P → a { nx := fun _ => P (.cl .non), rt := fun w _ => P w } (startA N.length ws)) : FnOk P wd K mg base CX0 (k + 1) f fd ps (spC T c) := by
  refine Fn.ok S (fun vs H Q E h => ?_) (fun cdv A outer s H vs Q E hr h => ?_)
  · obtain ⟨G, F, ws, P, sm, r, hc, _⟩ := h
    rw [r.length]; exact len ws P hc
  · obtain ⟨G, F, ws, P, sm, r, hc, kk⟩ := h
    refine ⟨_, hd cdv A outer s H E hr, ?_⟩
    have R := repS_start sm r (by rw [len ws P hc]; exact hN) N rfl
    refine ⟨_, F, _, _, R, hw ws P hc, ?_⟩
    have go : ∀ {F' H' : Hp} {σ' : L2.St} {δ' : List AV}, RepS T ⟨H, F, []⟩ F' H' σ' δ' → Go F H F' H' := fun {F' H' σ' δ'} R' => ⟨fun a o e => R'.fr a o e (by simp), R'.f0, R'.ex, fun a h => R'.fn a h⟩
    exact ⟨fun δ' q F' H' σ' s R' => kk _ q .non F' H' (go R') .non, fun w δ' q v F' H' σ' s R' r' => kk w q v F' H' (go R') r', fun δ' q => q.elim, fun δ' q => q.elim⟩
end

/-! ### short forms -/
/-- a slot that is never changed by the def: what it gets is clean at once -/
def aSetC (i : Nat) (e : AE) : AS := fun E δ => e δ fun w => match clW w with
  | some d => E.nx (δ.set i (.im d))
  | none => False
section
variable {T : Tb} {X : Cx} {e a b : Expr} {x y : AE} {pos : Pos} {i : Nat} {G : Gx} {F H : Hp}
theorem rd_setC {D' : Ends} {σ : L2.St} {H : Hp} (h : rdS T (aSetC i x) D' σ H) : tAsg (rdE T x) (gName i) D' σ H := by
  obtain ⟨G, F, δ, E, R, h, k⟩ := h
  refine ⟨G, F, δ, _, R, h, fun w hw v F1 H1 g r => ?_⟩
  split at hw
  · rename_i d hd
    obtain ⟨F2, g2, r2⟩ := clW_rep g r hd
    exact k.nx _ hw F2 H1 _ g2.f ((R.go g2).put (a := .im d) ⟨v, rfl, r2⟩ fun _ _ e => nomatch e)
  · exact hw.elim
theorem s_setC {s : Str} {pos' : Pos} (hN : X.N.Nodup) (hi : X.N[i]? = some s) (hx : Loc X.env.scope s) (he : PE X e (rdE T x)) (hs : swapsWith e (some (.Name s pos')) pos.line X.env = pure false := by rfl) (hf : X.fn s = true ∨ X.env.scope.names.lookup s = some .local := by first | exact .inl rfl | exact .inr rfl | assumption) :
    PS X (.Assign [.Name s pos'] e pos) (rdS T (aSetC i x)) := (ps_set hN hi hx he hs hf).mono fun _ _ _ h => rd_setC h
theorem s_setCLc {ks : List Nat} {s : Str} {py : Pos} {elt tg iter : Expr} {ifs : List Expr} {scope : Scope} {own : List (Str × Nat)} {pos spos : Pos} {ai : AI} {ag : AG} {t : AT} {e : AE} (hc : X.calm = true) (hN : X.N.Nodup) (hy : X.N[i]? = some s) (hyl : X.env.scope.names.lookup s = some .local)
    (hsw : swapsWith (.ListComp elt [⟨tg, iter, ifs, 0⟩] scope pos) (some (.Name s py)) spos.line X.env = pure true) (hi : PI X tg iter (rdI T ai)) (ok : BlkOk X.N X.env.scope scope own) (hk : ∀ i ∈ ks, i ∈ own.map (·.2))
    (hg : ∀ (s : Shared) (H : Hp) (C : Addr) (cl : List (Str × Addr)) (fp : List Addr), PG (X.blk s H scope (compEnvC scope cl C X.env) fp) tg (rdG T ks ag)) (ht : ∀ (s : Shared) (H : Hp) (C : Addr) (cl : List (Str × Addr)) (fp : List Addr), PTs (X.blk s H scope (compEnvC scope cl C X.env) fp) ifs (rdT T t))
    (he : ∀ (s : Shared) (H : Hp) (C : Addr) (cl : List (Str × Addr)) (fp : List Addr), PE (X.blk s H scope (compEnvC scope cl C X.env) fp) elt (rdE T e)) (hs : ∀ x, foldedSetIterable iter X.env x = pure x := by intro _; rfl) :
    PS X (.Assign [.Name s py] (.ListComp elt [⟨tg, iter, ifs, 0⟩] scope pos) spos) (rdS T (aSetC i (aLc ai ag t e (own.map (·.2))))) := (ps_setLc hc hN hy hyl hsw hi ok hg ht he hs).mono fun D σ H h => by
  obtain ⟨G, F, δ, E, R, h, k⟩ := h
  refine rd_lc hk ⟨G, F, δ, _, R, h, fun w hw v F1 H1 g r => ?_⟩
  split at hw
  · rename_i d hd
    obtain ⟨F2, g2, r2⟩ := clW_rep g r hd
    exact k.nx _ hw F2 H1 _ g2.f ((R.go g2).put (a := .im d) ⟨v, rfl, r2⟩ fun _ _ e => nomatch e)
  · exact hw.elim
theorem e_ix (hTK : T.K = X.K) (ha : PE X a (rdE T x)) (hb : PE X b (rdE T y)) (hs : PlainIx b) : PE X (.Subscript a b pos) (rdE T (aBin dIx x y)) :=
  (pe_ix ix_seq ha hb hs).mono fun _ _ _ h => rd_bin (hTK ▸ b_ix) h
def dNeg : W → (W → Prop) → Prop := fun w Q => match w with
  | .cl (.int i) => Q (.cl (.int (-i)))
  | _ => False
theorem u_neg : Un1 T (rU fun i => .int (-i)) dNeg := by
  intro G F H F' H' x u P Q g r h k
  unfold dNeg at h
  split at h
  · exact ⟨_, rep_int r, k _ h _ _ _ g (.int _)⟩
  · exact h.elim
end
end Vl
namespace Vl
open PySem PySem.Spec PyProof.Rows L2

theorem _root_.L2.Room.u1 {k : Nat} {A : Around} (r : Room k A) : A.units + 1 < cLine := by have := r.un; omega
theorem _root_.L2.Room.u64 {k : Nat} {A : Around} (r : Room k A) : A.units + 64 < cLine := by have := r.un; omega
theorem _root_.L2.Room.u65 {k : Nat} {A : Around} (r : Room k A) : A.units + 65 < cLine := by have := r.un; omega

/-! ### lcm -/
def rLcm : List V → Hp → VK → Prop := fun vs H Q => ∃ a b : Int, vs = [.int a, .int b] ∧ (a.natAbs < 2 ^ 63 ∧ b.natAbs < 2 ^ 63) ∧ Q (.int ((Nat.lcm a.natAbs b.natAbs : Nat) : Int)) H
section
variable {X : Cx} {T : Tb}
theorem lcm_le (a b : Nat) : Nat.lcm a b ≤ a * b := by
  unfold Nat.lcm
  exact Nat.div_le_self _ _
theorem cr_lcm : CallR X (.builtin "math.lcm") rLcm := by
  intro pins s σ H vs us Q I r h
  obtain ⟨a, b, rfl, hs, q⟩ := h
  obtain ⟨t, u, rfl⟩ := Vals.int2 r
  have e : ((Nat.lcm 1 a.natAbs).lcm b.natAbs) = Nat.lcm a.natAbs b.natAbs := by rw [Nat.lcm_one_left]
  refine PySem.W.mg_lcm (by omega) (by omega) ?_ ?_
  · rw [e]
    have h1 := lcm_le a.natAbs b.natAbs
    have h2 : a.natAbs * b.natAbs < 2 ^ 126 := by
      have : (2:Nat) ^ 126 = 2 ^ 63 * 2 ^ 63 := by decide
      rw [this]
      exact Nat.mul_lt_mul'' hs.1 hs.2
    have h3 : (((Nat.lcm a.natAbs b.natAbs : Nat) : Int)).natAbs = Nat.lcm a.natAbs b.natAbs := rfl
    rw [h3]
    by_cases hz : Nat.lcm a.natAbs b.natAbs = 0
    · rw [hz]; decide
    · have : (Nat.lcm a.natAbs b.natAbs).log2 < 126 := (Nat.log2_lt hz).mpr (by omega)
      exact Nat.lt_trans this (by decide)
  · rw [e]
    exact ⟨.int _, H, I.tok _, ⟨_, rfl⟩, q⟩
end
def fLcm : List W → (W → Prop) → Prop := two fun w u Q => match w, u with
  | .cl (.int i), .cl (.int j) => (i.natAbs < 2 ^ 63 ∧ j.natAbs < 2 ^ 63) ∧ Q (.cl (.int ((Nat.lcm i.natAbs j.natAbs : Nat) : Int)))
  | _, _ => False
theorem c_lcm {T : Tb} : CallV T rLcm fLcm := by
  intro G F H F' H' xs ws P Q g r h k
  obtain ⟨x, y, w, u, rfl, rfl, rx, ry, h⟩ := two_inv h r
  split at h
  · exact ⟨_, _, by rw [rep_int rx, rep_int ry], h.1, k _ h.2 _ _ _ g (.int _)⟩
  · exact h.elim

/-! ### x += e -/
def aAugAdd (i : Nat) (e : AE) : AS := fun E δ => match gt δ i with
  | .im (.int a) => e δ fun w => match w with
    | .cl (.int b) => E.nx (δ.set i (.im (.int (a + b))))
    | _ => False
  | _ => False
def aAugSub (i : Nat) (e : AE) : AS := fun E δ => match gt δ i with
  | .im (.int a) => e δ fun w => match w with
    | .cl (.int b) => E.nx (δ.set i (.im (.int (a - b))))
    | _ => False
  | _ => False
section
variable {T : Tb} {X : Cx} {e : Expr} {x : AE} {pos pos' : Pos} {i : Nat} {y : Str}
theorem s_augAdd (hN : X.N.Nodup) (hi : X.N[i]? = some y) (hx : Loc X.env.scope y) (he : PE X e (rdE T x)) (hf : X.fn y = true ∨ X.env.scope.names.lookup y = some .local := by first | exact .inl rfl | exact .inr rfl | assumption) :
    PS X (.AugAssign (.Name y pos') .Add e pos) (rdS T (aAugAdd i x)) := (ps_aug hN hi hx he ip_add hf).mono fun D σ H h => by
  obtain ⟨G, F, δ, E, R, h, k⟩ := h
  unfold aAugAdd at h
  split at h
  · rename_i a hg
    have q := R.sl i
    rw [hg] at q
    obtain ⟨v, e, r⟩ := q
    cases rep_int r
    refine ⟨_, gs_some e, G, F, δ, _, R, h, fun w hw v F1 H1 g r => ?_⟩
    split at hw
    · rename_i b
      exact ⟨a, b, rfl, rep_int r, k.nx _ hw F1 H1 _ g.f ((R.go g).put (a := .im _) ⟨_, rfl, .int _⟩ fun _ _ e => nomatch e)⟩
    · exact hw.elim
  · exact h.elim
theorem s_augSub (hN : X.N.Nodup) (hi : X.N[i]? = some y) (hx : Loc X.env.scope y) (he : PE X e (rdE T x)) (hf : X.fn y = true ∨ X.env.scope.names.lookup y = some .local := by first | exact .inl rfl | exact .inr rfl | assumption) :
    PS X (.AugAssign (.Name y pos') .Sub e pos) (rdS T (aAugSub i x)) := (ps_aug hN hi hx he ip_sub hf).mono fun D σ H h => by
  obtain ⟨G, F, δ, E, R, h, k⟩ := h
  unfold aAugSub at h
  split at h
  · rename_i a hg
    have q := R.sl i
    rw [hg] at q
    obtain ⟨v, e, r⟩ := q
    cases rep_int r
    refine ⟨_, gs_some e, G, F, δ, _, R, h, fun w hw v F1 H1 g r => ?_⟩
    split at hw
    · rename_i b
      exact ⟨a, b, rfl, rep_int r, k.nx _ hw F1 H1 _ g.f ((R.go g).put (a := .im _) ⟨_, rfl, .int _⟩ fun _ _ e => nomatch e)⟩
    · exact hw.elim
  · exact h.elim
theorem e_gint {s : Str} {n : Int} {u : Tok} (hg : Gl X s) (hm : X.mg s = some (.int n u)) (hd : (s == ("__debug__" : Str)) = false := by decide) : PE X (.Name s pos) (rdE T (aC (.int n))) :=
  (pe_glob (v := .int n) hg hm ⟨_, rfl⟩ hd).mono fun _ _ _ h => rd_c (fun _ => .int n) h
end

/-! ### contracts by the number of arguments -/
def args1 (f : W → (W → Prop) → Prop) : Ct := fun ws Q => match ws with
  | [a] => f a Q
  | _ => False
def args2 (f : W → W → (W → Prop) → Prop) : Ct := fun ws Q => match ws with
  | [a, b] => f a b Q
  | _ => False
def args3 (f : W → W → W → (W → Prop) → Prop) : Ct := fun ws Q => match ws with
  | [a, b, c] => f a b c Q
  | _ => False
def args4 (f : W → W → W → W → (W → Prop) → Prop) : Ct := fun ws Q => match ws with
  | [a, b, c, d] => f a b c d Q
  | _ => False
theorem args1_inv {f : W → (W → Prop) → Prop} {ws : List W} {Q : W → Prop} (h : args1 f ws Q) : ∃ a, ws = [a] ∧ f a Q := by
  unfold args1 at h
  split at h
  · exact ⟨_, rfl, h⟩
  · exact h.elim
theorem args2_inv {f : W → W → (W → Prop) → Prop} {ws : List W} {Q : W → Prop} (h : args2 f ws Q) : ∃ a b, ws = [a, b] ∧ f a b Q := by
  unfold args2 at h
  split at h
  · exact ⟨_, _, rfl, h⟩
  · exact h.elim
theorem args3_inv {f : W → W → W → (W → Prop) → Prop} {ws : List W} {Q : W → Prop} (h : args3 f ws Q) : ∃ a b c, ws = [a, b, c] ∧ f a b c Q := by
  unfold args3 at h
  split at h
  · exact ⟨_, _, _, rfl, h⟩
  · exact h.elim
theorem args4_inv {f : W → W → W → W → (W → Prop) → Prop} {ws : List W} {Q : W → Prop} (h : args4 f ws Q) : ∃ a b c d, ws = [a, b, c, d] ∧ f a b c d Q := by
  unfold args4 at h
  split at h
  · exact ⟨_, _, _, _, rfl, h⟩
  · exact h.elim
end Vl
/-! Reading bodies over data: computing rules, loops, comprehensions, equality. -/
namespace Vl
open PySem PySem.Spec PyProof.Rows L2

theorem gt_z (a : AV) (l : List AV) : gt (a :: l) 0 = a := rfl
theorem gt_s (a : AV) (l : List AV) (n : Nat) : gt (a :: l) (n + 1) = gt l n := rfl

/-! ### loops -/
def Loop (g : AG) (body : AS) (E : AEnds) (δ : List AV) (ds : List D) : Prop := ∃ I : Nat → List AV → Prop, I 0 δ ∧
  (∀ i d δ', ds[i]? = some d → I i δ' → g d δ' fun δ2 => body { E with nx := I (i + 1), ct := I (i + 1), bk := E.nx } δ2) ∧ ∀ δ', I ds.length δ' → E.nx δ'
theorem aFor_eq (ai : AI) (g : AG) (body : AS) (E : AEnds) (δ : List AV) : aFor ai g body E δ = ai δ fun ds => Loop g body E δ ds := rfl
section
variable {α : Type} {g : AG} {body : AS} {E : AEnds} {δ : List AV}
/-- over data that stands for xs: P by what is left -/
theorem for_map (enc : α → D) (xs : List α) (P : List α → List AV → Prop) (h0 : P xs δ) (hs : ∀ x r δ', (∃ l, xs = l ++ x :: r) → P (x :: r) δ' → g (enc x) δ' fun δ2 => body { E with nx := P r, ct := P r, bk := E.nx } δ2) (he : ∀ δ', P [] δ' → E.nx δ') :
    Loop g body E δ (xs.map enc) := by
  refine ⟨fun i δ' => P (xs.drop i) δ', h0, fun i d δ' hd hp => ?_, fun δ' hp => ?_⟩
  · rw [List.getElem?_map] at hd
    cases e : xs[i]? with
    | none => rw [e] at hd; cases hd
    | some x =>
      rw [e] at hd
      cases hd
      obtain ⟨hl, he⟩ := List.getElem?_eq_some_iff.mp e
      have e2 : xs.drop i = x :: xs.drop (i + 1) := by rw [List.drop_eq_getElem_cons hl, he]
      have hp : P (xs.drop i) δ' := hp
      rw [e2] at hp
      exact hs x (xs.drop (i + 1)) δ' ⟨xs.take i, by rw [← e2, List.take_append_drop]⟩ hp
  · have hp : P (xs.drop (xs.map enc).length) δ' := hp
    rw [List.length_map, List.drop_length] at hp
    exact he δ' hp
/-- over data as it is -/
theorem for_lst (ds : List D) (P : List D → List AV → Prop) (h0 : P ds δ) (hs : ∀ x r δ', (∃ l, ds = l ++ x :: r) → P (x :: r) δ' → g x δ' fun δ2 => body { E with nx := P r, ct := P r, bk := E.nx } δ2) (he : ∀ δ', P [] δ' → E.nx δ') :
    Loop g body E δ ds := by
  have h := for_map (g := g) (body := body) (E := E) (δ := δ) id ds P h0 (fun x r δ' e hp => hs x r δ' e hp) he
  rw [List.map_id] at h
  exact h
theorem ups_get {lo : Int} {n i : Nat} {d : D} (h : (ups lo n)[i]? = some d) : i < n ∧ d = .int (lo + (i : Nat)) := by
  unfold ups at h
  rw [List.getElem?_map] at h
  by_cases hi : i < n
  · rw [List.getElem?_range hi] at h
    cases h
    exact ⟨hi, rfl⟩
  · rw [List.getElem?_eq_none_iff.mpr (by simpa using hi)] at h
    cases h
theorem ups_len {lo : Int} {n : Nat} : (ups lo n).length = n := by unfold ups; simp
/-- over lo, lo + 1, .. -/
theorem for_up {lo : Int} {n : Nat} (P : Nat → List AV → Prop) (h0 : P 0 δ) (hs : ∀ i δ', i < n → P i δ' → g (.int (lo + (i : Nat))) δ' fun δ2 => body { E with nx := P (i + 1), ct := P (i + 1), bk := E.nx } δ2) (he : ∀ δ', P n δ' → E.nx δ') :
    Loop g body E δ (ups lo n) :=
  ⟨P, h0, fun i d δ' hd hp => by obtain ⟨hi, rfl⟩ := ups_get hd; exact hs i δ' hi hp, fun δ' hp => by rw [ups_len] at hp; exact he δ' hp⟩
theorem while_by (P : Nat → List AV → Prop) (m : Nat) (h0 : P m δ) {t : AT} (hs : ∀ m δ', P m δ' → t δ' fun b => if b = true then body { E with nx := fun δ2 => ∃ m', m' < m ∧ P m' δ2, ct := fun δ2 => ∃ m', m' < m ∧ P m' δ2, bk := E.nx } δ' else E.nx δ') : aWhile t body E δ :=
  ⟨P, ⟨m, h0⟩, hs⟩
/-- an if that both ways walk on: the rest twice -/
theorem cut_self {s t : AS} (h : s { E with nx := t E } δ) : aCut s t E δ := ⟨_, h, fun _ q => q⟩
theorem cut_by {s t : AS} (M : List AV → Prop) (h : s { E with nx := M } δ) (k : ∀ δ', M δ' → t E δ') : aCut s t E δ := ⟨M, h, k⟩
end

/-! ### comprehensions -/
section
variable {α : Type} {g : AG} {t : AT} {e : AE} {δ : List AV} {Q : W → Prop}
/-- over data that stands for xs, every item kept or not by p, its data by f -/
theorem lc_map (enc : α → D) (p : α → Bool) (f : α → D) : ∀ (xs : List α) (acc : List D), acc.length + xs.length ≤ 1000000 →
    (∀ x ∈ xs, ∀ K : W → Prop, ∀ L : Prop, (p x = true → K (.cl (f x))) → (p x = false → L) → g (enc x) δ fun δ2 => t δ2 fun b => if b = true then e δ2 (fun w => K (argW w)) else L) →
    Q (.fr (.fl (acc ++ (xs.filter p).map f))) → lcGo g t e δ (xs.map enc) acc Q
  | [], acc, _, _, q => by simpa [lcGo] using q
  | x :: xs, acc, hl, h, q => by
    have hl' : acc.length + (xs.length + 1) ≤ 1000000 := by simpa using hl
    show lcGo g t e δ (enc x :: xs.map enc) acc Q
    unfold lcGo
    have hx := h x (List.mem_cons_self) (fun w => match w with
      | .cl y => acc.length < 1000000 ∧ lcGo g t e δ (xs.map enc) (acc ++ [y]) Q
      | _ => False) (lcGo g t e δ (xs.map enc) acc Q) (fun hp => ⟨by omega, ?_⟩) (fun hp => ?_)
    · exact hx
    · refine lc_map enc p f xs (acc ++ [f x]) (by rw [List.length_append, List.length_singleton]; omega) (fun y hy => h y (List.mem_cons_of_mem _ hy)) ?_
      rw [List.filter_cons, if_pos hp] at q
      simpa using q
    · refine lc_map enc p f xs acc (by omega) (fun y hy => h y (List.mem_cons_of_mem _ hy)) ?_
      rw [List.filter_cons, if_neg (by rw [hp]; decide)] at q
      exact q
/-- without a test -/
theorem lc_all (enc : α → D) (f : α → D) (xs : List α) (hl : xs.length ≤ 1000000)
    (h : ∀ x ∈ xs, ∀ K : W → Prop, K (.cl (f x)) → g (enc x) δ fun δ2 => e δ2 (fun w => K (argW w))) (q : Q (.fr (.fl (xs.map f)))) : lcGo g aYes e δ (xs.map enc) [] Q :=
  lc_map enc (fun _ => true) f xs [] (by simpa using hl) (fun x hx K L k _ => by
    have := h x hx K (k rfl)
    simpa [aYes] using this) (by
    have e : xs.filter (fun _ => true) = xs := List.filter_eq_self.mpr fun _ _ => rfl
    rw [e]
    exact q)
end

/-! ### equality -/
theorem pds_map (ds : List D) : pds ds = ds.map pd := by
  induction ds with
  | nil => rfl
  | cons d ds ih => rw [pds, ih]; rfl
theorem okD_int (i : Int) : okD (.int i) = true := rfl
theorem okD_bl (i : Bool) : okD (.bl i) = true := rfl
theorem okD_non : okD .non = true := rfl
theorem okD_str (i : Str) (h : PyData.strOk i = true) : okD (.str i) = true := by
  unfold okD SeqAt.shaped
  simp [pd, PyData.canLay0, PyData.depth, h]
theorem eqD_int (i j : Int) : eqD (.int i) (.int j) = decide (i = j) := by
  show (i == j) = decide (i = j)
  by_cases h : i = j <;> simp [h]
theorem eqD_bl (i j : Bool) : eqD (.bl i) (.bl j) = (i == j) := rfl
theorem eqD_str (i j : Str) : eqD (.str i) (.str j) = decide (i = j) := by
  show (i == j) = decide (i = j)
  by_cases h : i = j <;> simp [h]
theorem eqD_non : eqD .non .non = true := rfl
theorem eqD_non_int (i : Int) : eqD .non (.int i) = false := rfl
theorem eqD_int_non (i : Int) : eqD (.int i) .non = false := rfl
theorem eqD_non_tup (i : List D) : eqD .non (.tup i) = false := rfl
theorem eqD_tup_non (i : List D) : eqD (.tup i) .non = false := rfl
theorem eqD_non_lst (i : List D) : eqD .non (.lst i) = false := rfl
theorem eqD_lst_non (i : List D) : eqD (.lst i) .non = false := rfl
/-- depth at most n, no dict, no instance -/
def dep (n : Nat) (d : D) : Prop := (pd d).canLay0 = true ∧ (pd d).depth ≤ n
theorem dep_ok {n : Nat} {d : D} (h : dep n d) (hn : n ≤ 64) : okD d = true := by
  unfold okD SeqAt.shaped
  rw [h.1, Bool.true_and]
  exact decide_eq_true (Nat.le_trans h.2 hn)
theorem dep_mono {m n : Nat} {d : D} (h : dep m d) (hn : m ≤ n) : dep n d := ⟨h.1, Nat.le_trans h.2 hn⟩
theorem dep_int (n : Nat) (i : Int) : dep n (.int i) := ⟨rfl, Nat.zero_le _⟩
theorem dep_bl (n : Nat) (i : Bool) : dep n (.bl i) := ⟨rfl, Nat.zero_le _⟩
theorem dep_str (n : Nat) (i : Str) (h : PyData.strOk i = true) : dep n (.str i) := ⟨by simp [pd, PyData.canLay0, h], Nat.zero_le _⟩
theorem dep_non (n : Nat) : dep n .non := ⟨rfl, Nat.zero_le _⟩
theorem dep_all {n : Nat} : ∀ {ds : List D}, (∀ d ∈ ds, dep n d) → PyData.canLayAll0 (pds ds) = true ∧ PyData.depthAll (pds ds) ≤ n
  | [], _ => ⟨rfl, Nat.zero_le _⟩
  | d :: ds, h => by
    have h1 := h d List.mem_cons_self
    have h2 := dep_all (ds := ds) fun x hx => h x (List.mem_cons_of_mem _ hx)
    refine ⟨?_, ?_⟩
    · show ((pd d).canLay0 && PyData.canLayAll0 (pds ds)) = true
      rw [h1.1, h2.1]; rfl
    · show max (pd d).depth (PyData.depthAll (pds ds)) ≤ n
      exact Nat.max_le.mpr ⟨h1.2, h2.2⟩
theorem dep_lst {n : Nat} {ds : List D} (h : ∀ d ∈ ds, dep n d) : dep (n + 1) (.lst ds) := by
  have h2 := dep_all h
  refine ⟨?_, ?_⟩
  · simpa [pd, PyData.canLay0] using h2.1
  · show (PyData.list (pds ds)).depth ≤ n + 1
    have := h2.2
    simp only [PyData.depth]
    omega
theorem dep_tup {n : Nat} {ds : List D} (h : ∀ d ∈ ds, dep n d) : dep (n + 1) (.tup ds) := by
  have h2 := dep_all h
  refine ⟨?_, ?_⟩
  · simpa [pd, PyData.canLay0] using h2.1
  · show (PyData.tuple (pds ds)).depth ≤ n + 1
    have := h2.2
    simp only [PyData.depth]
    omega
/-- == of two lists, of two tuples, item by item -/
theorem eqv_all {α β : Type} {f : α → D} {g : β → D} : ∀ {xs : List α} {ys : List β}, PyData.eqvAll (pds (xs.map f)) (pds (ys.map g)) = true ↔ xs.length = ys.length ∧ ∀ (i : Nat) (x : α) (y : β), xs[i]? = some x → ys[i]? = some y → eqD (f x) (g y) = true
  | [], [] => by simp [pds, PyData.eqvAll]
  | [], y :: ys => by simp [pds, PyData.eqvAll]
  | x :: xs, [] => by simp [pds, PyData.eqvAll]
  | x :: xs, y :: ys => by
    have ih := eqv_all (f := f) (g := g) (xs := xs) (ys := ys)
    show (eqD (f x) (g y) && PyData.eqvAll (pds (xs.map f)) (pds (ys.map g))) = true ↔ _
    rw [Bool.and_eq_true, ih]
    constructor
    · rintro ⟨h1, h2, h3⟩
      refine ⟨by simp [h2], fun i a b ha hb => ?_⟩
      cases i with
      | zero => simp at ha hb; subst ha hb; exact h1
      | succ i => exact h3 i a b (by simpa using ha) (by simpa using hb)
    · rintro ⟨h1, h2⟩
      exact ⟨h2 0 x y rfl rfl, by simpa using h1, fun i a b ha hb => h2 (i + 1) a b (by simpa using ha) (by simpa using hb)⟩
theorem eqD_lst {α : Type} [DecidableEq α] {f : α → D} (hf : ∀ x y, eqD (f x) (f y) = decide (x = y)) (xs ys : List α) : eqD (.lst (xs.map f)) (.lst (ys.map f)) = decide (xs = ys) := by
  have h := eqv_all (f := f) (g := f) (xs := xs) (ys := ys)
  show PyData.eqvAll (pds (xs.map f)) (pds (ys.map f)) = _
  rw [Bool.eq_iff_iff, h, decide_eq_true_eq]
  constructor
  · rintro ⟨h1, h2⟩
    apply List.ext_getElem?
    intro i
    cases e : xs[i]? with
    | none =>
      have := List.getElem?_eq_none_iff.mp e
      rw [List.getElem?_eq_none_iff.mpr (by omega)]
    | some x =>
      have hi := (List.getElem?_eq_some_iff.mp e).1
      have e2 : ys[i]? = some ys[i] := List.getElem?_eq_getElem (by omega)
      have := h2 i x _ e e2
      rw [hf, decide_eq_true_eq] at this
      rw [e2, this]
  · rintro rfl
    refine ⟨rfl, fun i x y hx hy => ?_⟩
    rw [hx] at hy
    cases hy
    rw [hf]; simp
theorem eqD_ints (xs ys : List Int) : eqD (.lst (xs.map .int)) (.lst (ys.map .int)) = decide (xs = ys) := eqD_lst eqD_int xs ys
theorem eqD_lst_refl (d : D) : PyData.canLay0 (pd d) = true → eqD d d = true := fun h => SeqAt.eqv_refl _ h

/-! ### computing rules -/
theorem dSub_eq (x y : W) (Q : W → Prop) : dSub x y Q = dI0 (fun i j => .int (i - j)) x y Q := rfl
theorem dDiv_eq (x y : W) (Q : W → Prop) : dDiv x y Q = dI (fun _ j => 0 < j ∧ j < 1073741824) (fun i j => .int (i / j)) x y Q := rfl
theorem dMod_eq (x y : W) (Q : W → Prop) : dMod x y Q = dI (fun _ j => 0 < j) (fun i j => .int (i % j)) x y Q := rfl
theorem dShl_eq (x y : W) (Q : W → Prop) : dShl x y Q = dI (fun i j => 0 ≤ j ∧ j ≤ 1000000 ∧ i.natAbs < 2 ^ 64) (fun i j => .int (i * 2 ^ j.toNat)) x y Q := rfl
theorem dPow_eq (x y : W) (Q : W → Prop) : dPow x y Q = dI (fun i j => 0 ≤ j ∧ j ≤ 1000000 ∧ i.natAbs < 2 ^ 64) (fun i j => .int (i ^ j.toNat)) x y Q := rfl
theorem dLt_eq (x y : W) (Q : W → Prop) : dLt x y Q = dI0 (fun i j => .bl (decide (i < j))) x y Q := rfl
theorem dLe_eq (x y : W) (Q : W → Prop) : dLe x y Q = dI0 (fun i j => .bl (decide (i ≤ j))) x y Q := rfl
theorem dGt_eq (x y : W) (Q : W → Prop) : dGt x y Q = dI0 (fun i j => .bl (decide (j < i))) x y Q := rfl
theorem dGe_eq (x y : W) (Q : W → Prop) : dGe x y Q = dI0 (fun i j => .bl (decide (j ≤ i))) x y Q := rfl
theorem fLen_lst (ds : List D) (Q : W → Prop) : fLen1 [.cl (.lst ds)] Q = Q (.cl (.int ds.length)) := rfl
theorem fLen_tup (ds : List D) (Q : W → Prop) : fLen1 [.cl (.tup ds)] Q = Q (.cl (.int ds.length)) := rfl
theorem fLen_ow (ds : List D) (Q : W → Prop) : fLen1 [.ow (.fl ds)] Q = Q (.cl (.int ds.length)) := rfl
theorem fLen_bw (ds : List D) (Q : W → Prop) : fLen1 [.bw (.fl ds)] Q = Q (.cl (.int ds.length)) := rfl
theorem fLen_scr (ds : List Int) (Q : W → Prop) : fLen1 [.cl (.scr ds)] Q = Q (.cl (.int ds.length)) := by
  show Q (.cl (.int ((ds.map D.int).length : Nat))) = _
  rw [List.length_map]
theorem fLen_str (z : Str) (Q : W → Prop) : fLen1 [.cl (.str z)] Q = (z.length ≤ 1000000 ∧ Q (.cl (.int z.length))) := rfl
theorem fInt_int (i : Int) (Q : W → Prop) : fInt [.cl (.int i)] Q = Q (.cl (.int i)) := rfl
theorem fInt_bl (b : Bool) (Q : W → Prop) : fInt [.cl (.bl b)] Q = Q (.cl (.int (if b then 1 else 0))) := rfl
theorem fAbs_int (i : Int) (Q : W → Prop) : fAbs [.cl (.int i)] Q = Q (.cl (.int (if i < 0 then -i else i))) := rfl
theorem fMax_int (i j : Int) (Q : W → Prop) : fMax2 [.cl (.int i), .cl (.int j)] Q = Q (.cl (.int (if j > i then j else i))) := rfl
theorem fMin_int (i j : Int) (Q : W → Prop) : fMin2 [.cl (.int i), .cl (.int j)] Q = Q (.cl (.int (if j < i then j else i))) := rfl
theorem fGcd_int (i j : Int) (Q : W → Prop) : fGcd [.cl (.int i), .cl (.int j)] Q = Q (.cl (.int ((Nat.gcd i.natAbs j.natAbs : Nat) : Int))) := rfl
theorem fLcm_int (i j : Int) (Q : W → Prop) : fLcm [.cl (.int i), .cl (.int j)] Q = ((i.natAbs < 2 ^ 63 ∧ j.natAbs < 2 ^ 63) ∧ Q (.cl (.int ((Nat.lcm i.natAbs j.natAbs : Nat) : Int)))) := rfl
theorem fList_lst (ds : List D) (Q : W → Prop) : fList [.cl (.lst ds)] Q = Q (.fr (.fl ds)) := rfl
theorem fList_tup (ds : List D) (Q : W → Prop) : fList [.cl (.tup ds)] Q = Q (.fr (.fl ds)) := rfl
theorem fList_ow (ds : List D) (Q : W → Prop) : fList [.ow (.fl ds)] Q = Q (.fr (.fl ds)) := rfl
theorem fList_bw (ds : List D) (Q : W → Prop) : fList [.bw (.fl ds)] Q = Q (.fr (.fl ds)) := rfl
theorem fList_scr (ds : List Int) (Q : W → Prop) : fList [.cl (.scr ds)] Q = Q (.fr (.fl (ds.map .int))) := rfl
theorem snoc_map {α : Type} (f : α → D) (xs : List α) (x : α) : xs.map f ++ [f x] = (xs ++ [x]).map f := by rw [List.map_append]; rfl
theorem snoc_int (xs : List Int) (x : Int) : xs.map D.int ++ [D.int x] = (xs ++ [x]).map D.int := snoc_map D.int xs x
theorem ixD_0 {α : Type} (a : α) (r : List α) : ixD (a :: r) 0 = some a := rfl
theorem ixD_1 {α : Type} (a b : α) (r : List α) : ixD (a :: b :: r) 1 = some b := rfl
theorem ixD_2 {α : Type} (a b c : α) (r : List α) : ixD (a :: b :: c :: r) 2 = some c := rfl
theorem ixD_3 {α : Type} (a b c d : α) (r : List α) : ixD (a :: b :: c :: d :: r) 3 = some d := rfl
theorem ixD_4 {α : Type} (a b c d e : α) (r : List α) : ixD (a :: b :: c :: d :: e :: r) 4 = some e := rfl
theorem ixD_5 {α : Type} (a b c d e f : α) (r : List α) : ixD (a :: b :: c :: d :: e :: f :: r) 5 = some f := rfl
theorem ixD_6 {α : Type} (a b c d e f g : α) (r : List α) : ixD (a :: b :: c :: d :: e :: f :: g :: r) 6 = some g := rfl
theorem ixD_7 {α : Type} (a b c d e f g h : α) (r : List α) : ixD (a :: b :: c :: d :: e :: f :: g :: h :: r) 7 = some h := rfl
theorem ixD_8 {α : Type} (a b c d e f g h i : α) (r : List α) : ixD (a :: b :: c :: d :: e :: f :: g :: h :: i :: r) 8 = some i := rfl
theorem ixD_9 {α : Type} (a b c d e f g h i j : α) (r : List α) : ixD (a :: b :: c :: d :: e :: f :: g :: h :: i :: j :: r) 9 = some j := rfl
theorem ixD_10 {α : Type} (a b c d e f g h i j k : α) (r : List α) : ixD (a :: b :: c :: d :: e :: f :: g :: h :: i :: j :: k :: r) 10 = some k := rfl
theorem ixD_11 {α : Type} (a b c d e f g h i j k l : α) (r : List α) : ixD (a :: b :: c :: d :: e :: f :: g :: h :: i :: j :: k :: l :: r) 11 = some l := rfl
theorem len_1 {α : Type} {xs : List α} (h : xs.length = 1) : ∃ a, xs = [a] := match xs, h with
  | [a], _ => ⟨a, rfl⟩
theorem len_2 {α : Type} {xs : List α} (h : xs.length = 2) : ∃ a b, xs = [a, b] := match xs, h with
  | [a, b], _ => ⟨a, b, rfl⟩
theorem len_3 {α : Type} {xs : List α} (h : xs.length = 3) : ∃ a b c, xs = [a, b, c] := match xs, h with
  | [a, b, c], _ => ⟨a, b, c, rfl⟩
theorem len_4 {α : Type} {xs : List α} (h : xs.length = 4) : ∃ a b c d, xs = [a, b, c, d] := match xs, h with
  | [a, b, c, d], _ => ⟨a, b, c, d, rfl⟩
theorem len_5 {α : Type} {xs : List α} (h : xs.length = 5) : ∃ a b c d e, xs = [a, b, c, d, e] := match xs, h with
  | [a, b, c, d, e], _ => ⟨a, b, c, d, e, rfl⟩
theorem len_6 {α : Type} {xs : List α} (h : xs.length = 6) : ∃ a b c d e f, xs = [a, b, c, d, e, f] := match xs, h with
  | [a, b, c, d, e, f], _ => ⟨a, b, c, d, e, f, rfl⟩
theorem len_7 {α : Type} {xs : List α} (h : xs.length = 7) : ∃ a b c d e f g, xs = [a, b, c, d, e, f, g] := match xs, h with
  | [a, b, c, d, e, f, g], _ => ⟨a, b, c, d, e, f, g, rfl⟩
theorem len_8 {α : Type} {xs : List α} (h : xs.length = 8) : ∃ a b c d e f g h, xs = [a, b, c, d, e, f, g, h] := match xs, h with
  | [a, b, c, d, e, f, g, h], _ => ⟨a, b, c, d, e, f, g, h, rfl⟩
theorem len_9 {α : Type} {xs : List α} (h : xs.length = 9) : ∃ a b c d e f g h i, xs = [a, b, c, d, e, f, g, h, i] := match xs, h with
  | [a, b, c, d, e, f, g, h, i], _ => ⟨a, b, c, d, e, f, g, h, i, rfl⟩
theorem len_10 {α : Type} {xs : List α} (h : xs.length = 10) : ∃ a b c d e f g h i j, xs = [a, b, c, d, e, f, g, h, i, j] := match xs, h with
  | [a, b, c, d, e, f, g, h, i, j], _ => ⟨a, b, c, d, e, f, g, h, i, j, rfl⟩
theorem len_11 {α : Type} {xs : List α} (h : xs.length = 11) : ∃ a b c d e f g h i j k, xs = [a, b, c, d, e, f, g, h, i, j, k] := match xs, h with
  | [a, b, c, d, e, f, g, h, i, j, k], _ => ⟨a, b, c, d, e, f, g, h, i, j, k, rfl⟩
theorem len_12 {α : Type} {xs : List α} (h : xs.length = 12) : ∃ a b c d e f g h i j k l, xs = [a, b, c, d, e, f, g, h, i, j, k, l] := match xs, h with
  | [a, b, c, d, e, f, g, h, i, j, k, l], _ => ⟨a, b, c, d, e, f, g, h, i, j, k, l, rfl⟩
theorem cutD_map {α : Type} (f : α → D) (xs : List α) (lo hi : Option Int) : cutD (xs.map f) lo hi = ((xs.drop (HT.sIx xs.length 0 lo)).take (HT.sIx xs.length xs.length hi - HT.sIx xs.length 0 lo)).map f := by
  unfold cutD
  rw [List.length_map, List.map_take, List.map_drop]
def cutL {α : Type} (xs : List α) (lo hi : Option Int) : List α := (xs.drop (HT.sIx xs.length 0 lo)).take (HT.sIx xs.length xs.length hi - HT.sIx xs.length 0 lo)
theorem cutD_cutL {α : Type} (f : α → D) (xs : List α) (lo hi : Option Int) : cutD (xs.map f) lo hi = (cutL xs lo hi).map f := cutD_map f xs lo hi
theorem cutL_len {α : Type} (xs : List α) (lo hi : Option Int) : (cutL xs lo hi).length ≤ xs.length := by
  unfold cutL
  rw [List.length_take, List.length_drop]
  omega
theorem cutL_mem {α : Type} {xs : List α} {lo hi : Option Int} {x : α} (h : x ∈ cutL xs lo hi) : x ∈ xs := List.mem_of_mem_drop (List.mem_of_mem_take h)
/-- the answers of the items are not told, but that each is one of S -/
theorem lc_any {α β : Type} {g : AG} {e : AE} {δ : List AV} {Q : W → Prop} (enc : α → D) (dec : β → D) (S : β → Prop) : ∀ (xs : List α) (acc : List β), acc.length + xs.length ≤ 1000000 → (∀ b ∈ acc, S b) →
    (∀ x ∈ xs, ∀ K : W → Prop, (∀ b, S b → K (.cl (dec b))) → g (enc x) δ fun δ2 => e δ2 fun w => K (argW w)) →
    (∀ bs : List β, bs.length = acc.length + xs.length → (∀ b ∈ bs, S b) → Q (.fr (.fl (bs.map dec)))) → lcGo g aYes e δ (xs.map enc) (acc.map dec) Q
  | [], acc, _, hS, _, q => by
    show Q (.fr (.fl (acc.map dec)))
    exact q acc (by simp) hS
  | x :: xs, acc, hl, hS, h, q => by
    have hl' : acc.length + (xs.length + 1) ≤ 1000000 := by simpa using hl
    show lcGo g aYes e δ (enc x :: xs.map enc) (acc.map dec) Q
    unfold lcGo
    refine h x List.mem_cons_self (fun w => match w with
      | .cl y => (acc.map dec).length < 1000000 ∧ lcGo g aYes e δ (xs.map enc) (acc.map dec ++ [y]) Q
      | _ => False) fun b hb => ⟨by rw [List.length_map]; omega, ?_⟩
    rw [snoc_map]
    refine lc_any enc dec S xs (acc ++ [b]) (by rw [List.length_append, List.length_singleton]; omega) (fun c hc => ?_) (fun y hy => h y (List.mem_cons_of_mem _ hy)) fun bs hl hs => q bs (by rw [hl]; simp; omega) hs
    rcases List.mem_append.mp hc with hc | hc
    · exact hS c hc
    · rw [List.mem_singleton.mp hc]; exact hb
theorem isi_bl_bool (b : Bool) : isiF (.bl b) "bool" = some true := rfl
theorem isi_bl_int (b : Bool) : isiF (.bl b) "int" = some true := rfl
theorem isi_int_int (b : Int) : isiF (.int b) "int" = some true := rfl
theorem isi_int_bool (b : Int) : isiF (.int b) "bool" = some false := rfl
theorem isi_non_int  : isiF (.non) "int" = some false := rfl
theorem isi_non_bool  : isiF (.non) "bool" = some false := rfl
theorem isi_lst_list (b : List D) : isiF (.lst b) "list" = some true := rfl
theorem isi_tup_list (b : List D) : isiF (.tup b) "list" = some false := rfl
theorem isi_tup_tuple (b : List D) : isiF (.tup b) "tuple" = some true := rfl
theorem isi_non_tuple  : isiF (.non) "tuple" = some false := rfl
theorem isi_non_list  : isiF (.non) "list" = some false := rfl
theorem isi_str_str (b : Str) : isiF (.str b) "str" = some true := rfl
theorem isi_lst_bool (b : List D) : isiF (.lst b) "bool" = some false := rfl
theorem isi_str_bool (b : Str) : isiF (.str b) "bool" = some false := rfl
theorem isi_tup_bool (b : List D) : isiF (.tup b) "bool" = some false := rfl
theorem inD_bls {α : Type} (f : α → Bool) (xs : List α) : inD (.bl true) (xs.map fun x => .bl (f x)) = xs.any f := by
  unfold inD
  rw [List.any_map]
  congr 1
  funext x
  show (f x == true) = f x
  cases f x <;> rfl
theorem okD_lst {n : Nat} {ds : List D} (h : ∀ d ∈ ds, dep n d) (hn : n ≤ 63) : okD (.lst ds) = true := dep_ok (dep_lst h) (by omega)
theorem okD_tup {n : Nat} {ds : List D} (h : ∀ d ∈ ds, dep n d) (hn : n ≤ 63) : okD (.tup ds) = true := dep_ok (dep_tup h) (by omega)
theorem okD_map {α : Type} {n : Nat} {f : α → D} {xs : List α} (h : ∀ x, dep n (f x)) (hn : n ≤ 63) : okD (.lst (xs.map f)) = true := okD_lst (n := n) (fun d hd => by
  obtain ⟨x, _, rfl⟩ := List.mem_map.mp hd
  exact h x) hn
end Vl
namespace Vl
open PySem PySem.Spec PyProof.Rows L2
/-- numbers that are drawn: any in their bounds -/
def c__law_draw : Ct := fun ws Q => ∃ c n b : Int, ws = [.cl (.int c), .cl (.int n), .cl (.int b)] ∧ (0 ≤ n ∧ n ≤ 1000) ∧ 0 < b ∧ b < 1073741824 ∧
  ∀ xs : List Int, xs.length = n.toNat → (∀ x ∈ xs, 0 ≤ x ∧ x < b) → Q (.fr (.fl (xs.map .int)))
theorem l__law_draw : ∀ ws P, c__law_draw ws P → ws.length = 3 := by rintro ws P ⟨c, n, b, rfl, _⟩; rfl
def cellN (ns : List Int) (k : Int) : Int := ns.getD k.toNat 0
def c__law_cell : Ct := fun ws Q => ∃ (ns : List Int) (k : Int), ws = [.cl (.scr ns), .cl (.int k)] ∧ 0 ≤ k ∧ Q (.cl (.int (cellN ns k)))
theorem l__law_cell : ∀ ws P, c__law_cell ws P → ws.length = 2 := by rintro ws P ⟨ns, k, rfl, _⟩; rfl
def c__law_is_integer : Ct := fun ws Q => ∃ d, ws = [.cl d] ∧ ((∃ i, d = .int i ∧ Q (.cl (.bl true))) ∨ (d = .non ∧ Q (.cl (.bl false))) ∨ (∃ b, d = .bl b ∧ Q (.cl (.bl false))))
theorem l__law_is_integer : ∀ ws P, c__law_is_integer ws P → ws.length = 1 := by rintro ws P ⟨d, rfl, _⟩; rfl
end Vl
local macro_rules | `(tactic| walk_at "vs") => `(tactic| simp only [Vl.aSeq, Vl.aFor_eq, Vl.aIf, Vl.aB, Vl.aBin, Vl.aUn, Vl.aV, Vl.slotW, Vl.gt_z, Vl.gt_s, Vl.aCB, Vl.aCall, Vl.aCons, Vl.aNil, Vl.argW, Vl.dLt_eq, Vl.dLe_eq, Vl.dGt_eq, Vl.dGe_eq, Vl.dI0, Vl.dI, Vl.dAdd, Vl.dSub_eq, Vl.dMul, Vl.dDiv_eq, Vl.dMod_eq, Vl.dPow_eq, Vl.dShl_eq, Vl.dNeg, Vl.dNot, Vl.dIsN, Vl.dNotN, Vl.dEq, Vl.dNe, Vl.dIn, Vl.dIx, Vl.fLen_lst, Vl.fLen_tup, Vl.fLen_ow, Vl.fLen_bw, Vl.fLen_scr, Vl.fLen_str, Vl.fInt_int, Vl.fInt_bl, Vl.fAbs_int, Vl.fMax_int, Vl.fMin_int, Vl.fGcd_int, Vl.fLcm_int, Vl.fList_lst, Vl.fList_tup, Vl.fList_ow, Vl.fList_bw, Vl.fList_scr, Vl.seqC, Vl.lstC, Vl.itemsC, Vl.clW, Vl.W.toD, Vl.M.toD, Vl.clDs, Option.map_some, Option.map_none,
  Vl.aRet, Vl.aRetV, Vl.aRetN, Vl.aNext, Vl.aBreak, Vl.aCont, Vl.aC, Vl.aSet, Vl.aSetC, Vl.slotA, Vl.aDrop, Vl.aAsgG, Vl.agN, Vl.agT, Vl.agCons, Vl.agNil, Vl.iLst, Vl.iTup, Vl.iR1, Vl.iR2, Vl.aTup, Vl.aLst, Vl.aAnd, Vl.aOr, Vl.aNot, Vl.aAndV, Vl.aOrV, Vl.aIfE, Vl.aSl, Vl.aoS, Vl.aoN, Vl.aChain, Vl.aAugAdd, Vl.aAugSub, Vl.aMut, Vl.aMutS, Vl.mAppend, Vl.mPop, Vl.mPopAt, Vl.mReverse, Vl.tyM, Vl.aFrz, Vl.frz, Vl.aSetIx, Vl.aLc, Vl.wipeA, Vl.aYes,
  List.set_cons_zero, List.set_cons_succ, List.length_map, List.length_cons, List.length_nil, decide_eq_true_eq, Bool.not_true, Bool.not_false, if_true, if_false, Bool.false_eq_true, Vl.okD_int, Vl.okD_bl, Vl.okD_non, Vl.eqD_int, Vl.eqD_bl, Vl.eqD_non, true_and, and_true, Vl.snoc_int, Vl.aIsi, Vl.isi_bl_bool, Vl.isi_bl_int, Vl.isi_int_int, Vl.isi_int_bool, Vl.isi_non_int, Vl.isi_non_bool, Vl.isi_lst_list, Vl.isi_tup_list, Vl.isi_tup_tuple, Vl.isi_non_tuple, Vl.isi_non_list, Vl.isi_str_str, Vl.isi_lst_bool, Vl.isi_str_bool, Vl.isi_tup_bool, Vl.ixD_0, Vl.ixD_1, Vl.ixD_2, Vl.ixD_3, Vl.ixD_4, Vl.ixD_5, Vl.ixD_6, Vl.ixD_7, Vl.ixD_8, Vl.ixD_9, Vl.ixD_10, Vl.ixD_11])
namespace Vl
open PySem PySem.Spec PyProof.Rows L2
/-- _law_is_integer: slots 0=_law_actual -/
def a__law_is_integer : AS :=
  aRet (aAndV (aIsi "int" (aV 0)) (aUn dNot (aIsi "bool" (aV 0))))
theorem w__law_is_integer : ∀ ws P, c__law_is_integer ws P → a__law_is_integer { nx := fun _ => P (.cl .non), rt := fun w _ => P w } (startA 1 ws) := by
  rintro ws P ⟨d, rfl, h⟩
  show a__law_is_integer _ [.im d]
  unfold a__law_is_integer
  rcases h with ⟨i, rfl, h⟩ | ⟨rfl, h⟩ | ⟨b, rfl, h⟩
  · walk_at "vs"; exact h
  · walk_at "vs"; exact h
  · walk_at "vs"; exact h
/-- _law_draw: slots 0=_law_cell 1=_law_many 2=_law_bound 3=_law_numbers 4=_law_k 5=_law_seed 6=_law_mixed -/
def a__law_draw : AS :=
  aSeq (aSet 3 (aLst (aNil))) (aSeq (aIf (aB (aBin (dGe) (aV 0) (aBin dPow (aC (.int 10)) (aC (.int 18))))) (aSeq (aFor (iR1 (aCons (aV 1) (aNil))) (agN 4) (aSeq (aMut "list" 3 mAppend (aCons (aBin dMod (aCB fInt (aCons (aV 0) (aNil))) (aV 2)) (aNil))) (aSetC 0 (aBin dDiv (aV 0) (aV 2))))) (aRetV 3)) (aNext)) (aSeq (aSetC 5 (aBin dMod (aCB fInt (aCons (aV 0) (aNil))) (aC (.int 2147483647)))) (aSeq (aFor (iR1 (aCons (aV 1) (aNil))) (agN 4) (aSeq (aSetC 5 (aBin dMod (aCB fInt (aCons (aBin dAdd (aBin dAdd (aBin dMul (aV 5) (aC (.int 48271))) (aC (.int 12345))) (aV 4)) (aNil))) (aC (.int 2147483647)))) (aSeq (aSetC 6 (aBin dMod (aCB fInt (aCons (aBin dAdd (aBin dMul (aV 5) (aC (.int 69621))) (aBin dMul (aC (.int 977)) (aV 4))) (aNil))) (aC (.int 2147483629)))) (aMut "list" 3 mAppend (aCons (aBin dMod (aCB fInt (aCons (aBin dDiv (aV 6) (aC (.int 3))) (aNil))) (aV 2)) (aNil)))))) (aRetV 3))))
theorem w__law_draw : ∀ ws P, c__law_draw ws P → a__law_draw { nx := fun _ => P (.cl .non), rt := fun w _ => P w } (startA 7 ws) := by
  rintro ws P ⟨c, n, b, rfl, ⟨hn0, hn⟩, hb, hb2, h⟩
  show a__law_draw _ [.im (.int c), .im (.int n), .im (.int b), .non, .non, .non, .non]
  unfold a__law_draw
  walk_at "vs"
  have key : ∀ (xs : List Int), (∀ x ∈ xs, 0 ≤ x ∧ x < b) → ∀ y : Int, ∀ x ∈ xs ++ [y % b], 0 ≤ x ∧ x < b := by
    intro xs hx y x hm
    rcases List.mem_append.mp hm with q | q
    · exact hx x q
    · rw [List.mem_singleton.mp q]
      exact ⟨Int.emod_nonneg _ (by omega), Int.emod_lt_of_pos _ hb⟩
  refine ⟨by omega, ⟨by omega, by omega, by decide⟩, ?_⟩
  split
  · refine ⟨by omega, for_up (fun i δ => ∃ (c' : Int) (xs : List Int) (a : AV), δ = [.im (.int c'), .im (.int n), .im (.int b), .ow false (.fl (xs.map .int)), a, .non, .non] ∧ xs.length = i ∧ ∀ x ∈ xs, 0 ≤ x ∧ x < b)
      ⟨c, [], _, rfl, rfl, fun x hx => nomatch hx⟩ ?_ ?_⟩
    · rintro i δ hi ⟨c', xs, a, rfl, hl, hx⟩
      walk_at "vs"
      refine ⟨hb, by omega, ⟨hb, hb2⟩, c' / b, xs ++ [c' % b], _, rfl, by simp [hl], key xs hx c'⟩
    · rintro δ ⟨c', xs, a, rfl, hl, hx⟩
      walk_at "vs"
      exact h xs (by omega) hx
  · refine ⟨by omega, by omega, for_up (fun i δ => ∃ (s : Int) (xs : List Int) (a a' : AV), δ = [.im (.int c), .im (.int n), .im (.int b), .ow false (.fl (xs.map .int)), a, .im (.int s), a'] ∧ xs.length = i ∧ ∀ x ∈ xs, 0 ≤ x ∧ x < b)
      ⟨_, [], _, _, rfl, rfl, fun x hx => nomatch hx⟩ ?_ ?_⟩
    · rintro i δ hi ⟨s, xs, a, a', rfl, hl, hx⟩
      walk_at "vs"
      refine ⟨.inr (by decide), by omega, .inr (by decide), .inl (by decide), by omega, by decide, hb, by omega, _, xs ++ [_ % b], _, _, rfl, by simp [hl], key xs hx _⟩
    · rintro δ ⟨s, xs, a, a', rfl, hl, hx⟩
      walk_at "vs"
      exact h xs (by omega) hx
end Vl
local macro_rules | `(tactic| walk_at "vs") => `(tactic| simp only [Vl.aSeq, Vl.aFor_eq, Vl.aIf, Vl.aB, Vl.aBin, Vl.aUn, Vl.aV, Vl.slotW, Vl.gt_z, Vl.gt_s, Vl.aCB, Vl.aCall, Vl.aCons, Vl.aNil, Vl.argW, Vl.dLt_eq, Vl.dLe_eq, Vl.dGt_eq, Vl.dGe_eq, Vl.dI0, Vl.dI, Vl.dAdd, Vl.dSub_eq, Vl.dMul, Vl.dDiv_eq, Vl.dMod_eq, Vl.dPow_eq, Vl.dShl_eq, Vl.dNeg, Vl.dNot, Vl.dIsN, Vl.dNotN, Vl.dEq, Vl.dNe, Vl.dIn, Vl.dIx, Vl.fLen_lst, Vl.fLen_tup, Vl.fLen_ow, Vl.fLen_bw, Vl.fLen_scr, Vl.fLen_str, Vl.fInt_int, Vl.fInt_bl, Vl.fAbs_int, Vl.fMax_int, Vl.fMin_int, Vl.fGcd_int, Vl.fLcm_int, Vl.fList_lst, Vl.fList_tup, Vl.fList_ow, Vl.fList_bw, Vl.fList_scr, Vl.seqC, Vl.lstC, Vl.itemsC, Vl.clW, Vl.W.toD, Vl.M.toD, Vl.clDs, Option.map_some, Option.map_none,
  Vl.aRet, Vl.aRetV, Vl.aRetN, Vl.aNext, Vl.aBreak, Vl.aCont, Vl.aC, Vl.aSet, Vl.aSetC, Vl.slotA, Vl.aDrop, Vl.aAsgG, Vl.agN, Vl.agT, Vl.agCons, Vl.agNil, Vl.iLst, Vl.iTup, Vl.iR1, Vl.iR2, Vl.aTup, Vl.aLst, Vl.aAnd, Vl.aOr, Vl.aNot, Vl.aAndV, Vl.aOrV, Vl.aIfE, Vl.aSl, Vl.aoS, Vl.aoN, Vl.aChain, Vl.aAugAdd, Vl.aAugSub, Vl.aMut, Vl.aMutS, Vl.mAppend, Vl.mPop, Vl.mPopAt, Vl.mReverse, Vl.tyM, Vl.aFrz, Vl.frz, Vl.aSetIx, Vl.aLc, Vl.wipeA, Vl.aYes,
  List.set_cons_zero, List.set_cons_succ, List.length_map, List.length_cons, List.length_nil, decide_eq_true_eq, Bool.not_true, Bool.not_false, if_true, if_false, Bool.false_eq_true, Vl.okD_int, Vl.okD_bl, Vl.okD_non, Vl.eqD_int, Vl.eqD_bl, Vl.eqD_non, true_and, and_true, Vl.snoc_int, Vl.aIsi, Vl.isi_bl_bool, Vl.isi_bl_int, Vl.isi_int_int, Vl.isi_int_bool, Vl.isi_non_int, Vl.isi_non_bool, Vl.isi_lst_list, Vl.isi_tup_list, Vl.isi_tup_tuple, Vl.isi_non_tuple, Vl.isi_non_list, Vl.isi_str_str, Vl.isi_lst_bool, Vl.isi_str_bool, Vl.isi_tup_bool, Vl.ixD_0, Vl.ixD_1, Vl.ixD_2, Vl.ixD_3, Vl.ixD_4, Vl.ixD_5, Vl.ixD_6, Vl.ixD_7, Vl.ixD_8, Vl.ixD_9, Vl.ixD_10, Vl.ixD_11])
namespace Vl
open PySem PySem.Spec PyProof.Rows L2

/-- a window: offset, length, period -/
abbrev Wn := Int × Int × Int
def wD (w : Wn) : D := .tup [.int w.1, .int w.2.1, .int w.2.2]
def takenB (w : Wn) (t : Int) : Bool := decide (0 < w.2.1 ∧ w.1 ≤ t ∧ (w.2.2 ≤ w.2.1 ∨ (t - w.1) % w.2.2 < w.2.1))
def freeB (ws : List Wn) (t : Int) : Bool := ws.all fun w => !takenB w t
/-- a list that is read: clean, borrowed or own -/
def LstW (w : W) (ds : List D) : Prop := w = .cl (.lst ds) ∨ w = .bw (.fl ds)
def c_is_free : Ct := fun ws Q => ∃ (xs : List Wn) (t : Int), ws = [.cl (.lst (xs.map wD)), .cl (.int t)] ∧ (∀ w ∈ xs, 0 < w.2.2) ∧ Q (.cl (.bl (freeB xs t)))
theorem l_is_free : ∀ ws P, c_is_free ws P → ws.length = 2 := by rintro ws P ⟨xs, t, rfl, _⟩; rfl
/-! ### the least common multiple of the periods -/
def lcmW (k : Nat) (xs : List Wn) : Nat := xs.foldl (fun k w => Nat.lcm k w.2.2.natAbs) k
theorem lcmW_dvd (N : Nat) : ∀ (xs : List Wn) (k : Nat), k ∣ N → (∀ w ∈ xs, w.2.2.natAbs ∣ N) → lcmW k xs ∣ N
  | [], k, h, _ => h
  | w :: xs, k, h, hx => lcmW_dvd N xs _ (Nat.lcm_dvd h (hx w List.mem_cons_self)) fun u hu => hx u (List.mem_cons_of_mem _ hu)
theorem dvd_lcmW : ∀ (xs : List Wn) (k : Nat), k ∣ lcmW k xs ∧ ∀ w ∈ xs, w.2.2.natAbs ∣ lcmW k xs
  | [], k => ⟨Nat.dvd_refl k, fun _ h => nomatch h⟩
  | w :: xs, k => by
    have ih := dvd_lcmW xs (Nat.lcm k w.2.2.natAbs)
    refine ⟨Nat.dvd_trans (Nat.dvd_lcm_left _ _) ih.1, fun u hu => ?_⟩
    rcases List.mem_cons.mp hu with rfl | hu
    · exact Nat.dvd_trans (Nat.dvd_lcm_right _ _) ih.1
    · exact ih.2 u hu
def c_common_period : Ct := fun ws Q => ∃ (xs : List Wn) (N : Nat), ws = [.cl (.lst (xs.map wD))] ∧ (0 < N ∧ N < 2 ^ 62) ∧ (∀ w ∈ xs, w.2.2.natAbs ∣ N) ∧ Q (.cl (.int (lcmW 1 xs : Nat)))
theorem l_common_period : ∀ ws P, c_common_period ws P → ws.length = 1 := by rintro ws P ⟨xs, N, rfl, _⟩; rfl
end Vl
local macro_rules | `(tactic| walk_at "vs") => `(tactic| simp only [Vl.aSeq, Vl.aFor_eq, Vl.aIf, Vl.aB, Vl.aBin, Vl.aUn, Vl.aV, Vl.slotW, Vl.gt_z, Vl.gt_s, Vl.aCB, Vl.aCall, Vl.aCons, Vl.aNil, Vl.argW, Vl.dLt_eq, Vl.dLe_eq, Vl.dGt_eq, Vl.dGe_eq, Vl.dI0, Vl.dI, Vl.dAdd, Vl.dSub_eq, Vl.dMul, Vl.dDiv_eq, Vl.dMod_eq, Vl.dPow_eq, Vl.dShl_eq, Vl.dNeg, Vl.dNot, Vl.dIsN, Vl.dNotN, Vl.dEq, Vl.dNe, Vl.dIn, Vl.dIx, Vl.fLen_lst, Vl.fLen_tup, Vl.fLen_ow, Vl.fLen_bw, Vl.fLen_scr, Vl.fLen_str, Vl.fInt_int, Vl.fInt_bl, Vl.fAbs_int, Vl.fMax_int, Vl.fMin_int, Vl.fGcd_int, Vl.fLcm_int, Vl.fList_lst, Vl.fList_tup, Vl.fList_ow, Vl.fList_bw, Vl.fList_scr, Vl.seqC, Vl.lstC, Vl.itemsC, Vl.clW, Vl.W.toD, Vl.M.toD, Vl.clDs, Option.map_some, Option.map_none,
  Vl.aRet, Vl.aRetV, Vl.aRetN, Vl.aNext, Vl.aBreak, Vl.aCont, Vl.aC, Vl.aSet, Vl.aSetC, Vl.slotA, Vl.aDrop, Vl.aAsgG, Vl.agN, Vl.agT, Vl.agCons, Vl.agNil, Vl.iLst, Vl.iTup, Vl.iR1, Vl.iR2, Vl.aTup, Vl.aLst, Vl.aAnd, Vl.aOr, Vl.aNot, Vl.aAndV, Vl.aOrV, Vl.aIfE, Vl.aSl, Vl.aoS, Vl.aoN, Vl.aChain, Vl.aAugAdd, Vl.aAugSub, Vl.aMut, Vl.aMutS, Vl.mAppend, Vl.mPop, Vl.mPopAt, Vl.mReverse, Vl.tyM, Vl.aFrz, Vl.frz, Vl.aSetIx, Vl.aLc, Vl.wipeA, Vl.aYes,
  List.set_cons_zero, List.set_cons_succ, List.length_map, List.length_cons, List.length_nil, decide_eq_true_eq, Bool.not_true, Bool.not_false, if_true, if_false, Bool.false_eq_true, Vl.okD_int, Vl.okD_bl, Vl.okD_non, Vl.eqD_int, Vl.eqD_bl, Vl.eqD_non, true_and, and_true, Vl.snoc_int, Vl.aIsi, Vl.isi_bl_bool, Vl.isi_bl_int, Vl.isi_int_int, Vl.isi_int_bool, Vl.isi_non_int, Vl.isi_non_bool, Vl.isi_lst_list, Vl.isi_tup_list, Vl.isi_tup_tuple, Vl.isi_non_tuple, Vl.isi_non_list, Vl.isi_str_str, Vl.isi_lst_bool, Vl.isi_str_bool, Vl.isi_tup_bool, Vl.ixD_0, Vl.ixD_1, Vl.ixD_2, Vl.ixD_3, Vl.ixD_4, Vl.ixD_5, Vl.ixD_6, Vl.ixD_7, Vl.ixD_8, Vl.ixD_9, Vl.ixD_10, Vl.ixD_11])
namespace Vl
open PySem PySem.Spec PyProof.Rows L2

/-! ### when two windows meet -/
def WOk (w : Wn) : Prop := (-1000 ≤ w.1 ∧ w.1 ≤ 1000) ∧ (0 ≤ w.2.1 ∧ w.2.1 ≤ 1000) ∧ 1 ≤ w.2.2 ∧ w.2.2 ≤ 60
def gcdZ (a b : Int) : Int := ((Nat.gcd a.natAbs b.natAbs : Nat) : Int)
def meetB (a b : Wn) : Bool := decide ((a.2.1 ≠ 0 ∧ b.2.1 ≠ 0) ∧ ((b.1 - a.1) % gcdZ a.2.2 b.2.2 < a.2.1 ∨ (a.1 - b.1) % gcdZ a.2.2 b.2.2 < b.2.1))
theorem meetB_comm (a b : Wn) : meetB a b = meetB b a := by
  unfold meetB
  rw [show gcdZ a.2.2 b.2.2 = gcdZ b.2.2 a.2.2 from by unfold gcdZ; rw [Nat.gcd_comm], Bool.eq_iff_iff, decide_eq_true_eq, decide_eq_true_eq]
  exact ⟨fun ⟨⟨h1, h2⟩, h3⟩ => ⟨⟨h2, h1⟩, h3.symm⟩, fun ⟨⟨h1, h2⟩, h3⟩ => ⟨⟨h2, h1⟩, h3.symm⟩⟩
/-- numbers that give the greatest common divisor -/
theorem bezout : ∀ a b : Nat, ∃ x y : Int, (a : Int) * x + (b : Int) * y = ((Nat.gcd a b : Nat) : Int) := by
  intro a
  induction a using Nat.strongRecOn with
  | ind a ih =>
    intro b
    by_cases h : a = 0
    · subst h
      exact ⟨0, 1, by simp⟩
    · obtain ⟨x, y, e⟩ := ih (b % a) (Nat.mod_lt _ (by omega)) a
      rw [Nat.gcd_rec a b, ← e]
      refine ⟨y - ((b / a : Nat) : Int) * x, x, ?_⟩
      have e2 : (b : Int) = (a : Int) * ((b / a : Nat) : Int) + ((b % a : Nat) : Int) := by
        have := Nat.div_add_mod b a
        exact_mod_cast this.symm
      rw [Int.mul_sub, e2, Int.add_mul, ← Int.mul_assoc]
      have e3 : ((a : Int) * ((b / a : Nat) : Int) + ((b % a : Nat) : Int)) / (a : Int) = ((b / a : Nat) : Int) := by
        rw [← e2]; exact (Int.natCast_ediv b a).symm ▸ rfl
      omega
/-- a number from K on that p * k brings to e, up to q -/
theorem congr_solve {p q e : Int} (hp : 0 < p) (hq : 0 < q) (he : gcdZ p q ∣ e) (K : Int) : ∃ k m : Int, K ≤ k ∧ k < K + q ∧ p * k - q * m = e := by
  obtain ⟨c, rfl⟩ := he
  obtain ⟨x, y, h⟩ := bezout p.natAbs q.natAbs
  rw [show ((p.natAbs : Nat) : Int) = p by omega, show ((q.natAbs : Nat) : Int) = q by omega] at h
  have h1 := Int.emod_nonneg (c * x - K) (show q ≠ 0 by omega)
  have h2 := Int.emod_lt_of_pos (c * x - K) hq
  have h3 := Int.mul_ediv_add_emod (c * x - K) q
  refine ⟨K + (c * x - K) % q, -(c * y) - p * ((c * x - K) / q), by omega, by omega, ?_⟩
  have e1 : K + (c * x - K) % q = c * x - q * ((c * x - K) / q) := by omega
  rw [e1, Int.mul_sub, Int.mul_sub, show gcdZ p q * c = p * (c * x) + q * (c * y) from by
    show ((Nat.gcd p.natAbs q.natAbs : Nat) : Int) * c = _
    rw [← h, Int.add_mul, Int.mul_comm c x, Int.mul_comm c y, Int.mul_assoc, Int.mul_assoc]]
  rw [Int.mul_neg, ← Int.mul_assoc p q, ← Int.mul_assoc q p, Int.mul_comm q p]
  omega
/-- the least m whose window ends after the start of the k-th -/
def mOf (a b : Wn) (k : Int) : Int := if (a.1 + k * a.2.2 - b.1 - b.2.1) / b.2.2 + 1 > 0 then (a.1 + k * a.2.2 - b.1 - b.2.1) / b.2.2 + 1 else 0
def Hit (a b : Wn) (k : Int) : Prop := b.1 + mOf a b k * b.2.2 < a.1 + k * a.2.2 + a.2.1
/-- windows k and m share a tick -/
def Ov (a b : Wn) (k m : Int) : Prop := b.1 + m * b.2.2 < a.1 + k * a.2.2 + a.2.1 ∧ a.1 + k * a.2.2 < b.1 + m * b.2.2 + b.2.1
theorem mOf_le {a b : Wn} (hb : WOk b) {k m : Int} (hm : 0 ≤ m) : (a.1 + k * a.2.2 < b.1 + m * b.2.2 + b.2.1) ↔ mOf a b k ≤ m := by
  obtain ⟨_, _, hp, _⟩ := hb
  unfold mOf
  have key : (a.1 + k * a.2.2 < b.1 + m * b.2.2 + b.2.1) ↔ (a.1 + k * a.2.2 - b.1 - b.2.1) / b.2.2 < m := by
    rw [Int.ediv_lt_iff_lt_mul (by omega)]
    omega
  rw [key]
  split <;> omega
theorem mOf_nn (a b : Wn) (k : Int) : 0 ≤ mOf a b k := by unfold mOf; split <;> omega
theorem hit_iff {a b : Wn} (hb : WOk b) (k : Int) : Hit a b k ↔ ∃ m, 0 ≤ m ∧ Ov a b k m := by
  constructor
  · intro h
    exact ⟨_, mOf_nn a b k, h, (mOf_le hb (mOf_nn a b k)).mpr (Int.le_refl _)⟩
  · rintro ⟨m, h0, h1, h2⟩
    have h3 := (mOf_le hb h0).mp h2
    have h4 := Int.mul_le_mul_of_nonneg_right h3 (show 0 ≤ b.2.2 by obtain ⟨_, _, h, _⟩ := hb; omega)
    unfold Hit
    omega
theorem gcd_dvds (p q : Int) : gcdZ p q ∣ p ∧ gcdZ p q ∣ q := ⟨Int.dvd_natAbs.mp (Int.natCast_dvd_natCast.mpr (Nat.gcd_dvd_left _ _)), Int.dvd_natAbs.mp (Int.natCast_dvd_natCast.mpr (Nat.gcd_dvd_right _ _))⟩
theorem gcd_pos {p q : Int} (hp : 0 < p) : 0 < gcdZ p q := Int.natCast_pos.mpr (Nat.gcd_pos_of_pos_left _ (by omega))
theorem gcd_le {p q : Int} (hp : 0 < p) : gcdZ p q ≤ p := Int.le_of_dvd hp (gcd_dvds p q).1
theorem emod_le_self {x g : Int} (hx : 0 ≤ x) (hg : 0 < g) : x % g ≤ x := by
  have := Int.mul_ediv_add_emod x g
  have h := Int.mul_nonneg (show 0 ≤ g by omega) (Int.ediv_nonneg hx (show 0 ≤ g by omega))
  omega
theorem meet_of {a b : Wn} (ha : WOk a) (hb : WOk b) {k m : Int} (h : Ov a b k m) (hl : a.2.1 ≠ 0 ∧ b.2.1 ≠ 0) : meetB a b = true := by
  obtain ⟨_, la, pa, _⟩ := ha
  obtain ⟨_, lb, pb, _⟩ := hb
  unfold meetB
  rw [decide_eq_true_eq]
  refine ⟨hl, ?_⟩
  have g0 := gcd_pos (q := b.2.2) (show 0 < a.2.2 by omega)
  obtain ⟨d1, d2⟩ := gcd_dvds a.2.2 b.2.2
  obtain ⟨h1, h2⟩ := h
  have dv : gcdZ a.2.2 b.2.2 ∣ m * b.2.2 - k * a.2.2 := Int.dvd_sub (Int.dvd_trans d2 (Int.dvd_mul_left _ _)) (Int.dvd_trans d1 (Int.dvd_mul_left _ _))
  by_cases q : a.1 + k * a.2.2 ≤ b.1 + m * b.2.2
  · left
    obtain ⟨c, hc⟩ := dv
    have e : b.1 - a.1 = (b.1 + m * b.2.2 - (a.1 + k * a.2.2)) + gcdZ a.2.2 b.2.2 * (-c) := by rw [Int.mul_neg]; omega
    rw [e, Int.add_mul_emod_self_left]
    have := emod_le_self (show 0 ≤ b.1 + m * b.2.2 - (a.1 + k * a.2.2) by omega) g0
    omega
  · right
    obtain ⟨c, hc⟩ := dv
    have e : a.1 - b.1 = (a.1 + k * a.2.2 - (b.1 + m * b.2.2)) + gcdZ a.2.2 b.2.2 * c := by omega
    rw [e, Int.add_mul_emod_self_left]
    have := emod_le_self (show 0 ≤ a.1 + k * a.2.2 - (b.1 + m * b.2.2) by omega) g0
    omega
def bgn (a b : Wn) : Int := if (b.1 - a.1) / a.2.2 > 0 then (b.1 - a.1) / a.2.2 else 0
theorem hit_near {a b : Wn} (ha : WOk a) (hb : WOk b) (h : meetB a b = true) : ∃ k, 0 ≤ k ∧ k < bgn a b + 70 ∧ Hit a b k := by
  have hb0 := hb
  obtain ⟨_, la, pa, pa2⟩ := ha
  obtain ⟨_, lb, pb, pb2⟩ := hb
  unfold meetB at h
  rw [decide_eq_true_eq] at h
  obtain ⟨⟨hl1, hl2⟩, h⟩ := h
  have g0 := gcd_pos (q := b.2.2) (show 0 < a.2.2 by omega)
  have gl := gcd_le (q := b.2.2) (show 0 < a.2.2 by omega)
  have b0 : 0 ≤ bgn a b := by unfold bgn; split <;> omega
  have b1 : (b.1 - a.1) / a.2.2 ≤ bgn a b := by unfold bgn; split <;> omega
  have dm := Int.mul_ediv_add_emod (b.1 - a.1) a.2.2
  have dr := Int.emod_lt_of_pos (b.1 - a.1) (show 0 < a.2.2 by omega)
  -- k past the start
  have past : ∀ k, bgn a b + 2 ≤ k → (b.1 - a.1) + a.2.2 < a.2.2 * k := fun k hk => by
    have := Int.mul_le_mul_of_nonneg_left (show (b.1 - a.1) / a.2.2 + 2 ≤ k by omega) (show 0 ≤ a.2.2 by omega)
    rw [Int.mul_add] at this
    omega
  have fin : ∀ e r : Int, gcdZ a.2.2 b.2.2 ∣ e → e < (b.1 - a.1) + a.2.2 → (∀ x, x = (b.1 - a.1) - e → (0 ≤ x ∧ x < a.2.1) ∨ (x ≤ 0 ∧ -x < b.2.1)) → ∃ k, 0 ≤ k ∧ k < bgn a b + 70 ∧ Hit a b k := fun e r hd he hx => by
    obtain ⟨k, m, k1, k2, k3⟩ := congr_solve (show 0 < a.2.2 by omega) (show 0 < b.2.2 by omega) hd (bgn a b + 2)
    have k4 := past k k1
    refine ⟨k, by omega, by omega, (hit_iff hb0 k).mpr ⟨m, ?_, ?_⟩⟩
    · have : 0 < b.2.2 * m := by omega
      have := Int.pos_of_mul_pos_right (a := b.2.2) (b := m) this (by omega)
      omega
    · have := hx _ rfl
      unfold Ov
      rw [Int.mul_comm m, Int.mul_comm k]
      omega
  rcases h with h | h
  · have m0 := Int.emod_nonneg (b.1 - a.1) (show gcdZ a.2.2 b.2.2 ≠ 0 by omega)
    have e := Int.mul_ediv_add_emod (b.1 - a.1) (gcdZ a.2.2 b.2.2)
    refine fin (gcdZ a.2.2 b.2.2 * ((b.1 - a.1) / gcdZ a.2.2 b.2.2)) 0 (Int.dvd_mul_right _ _) (by omega) fun x hx => .inl (by omega)
  · have m0 := Int.emod_nonneg (a.1 - b.1) (show gcdZ a.2.2 b.2.2 ≠ 0 by omega)
    have m1 := Int.emod_lt_of_pos (a.1 - b.1) g0
    have e := Int.mul_ediv_add_emod (a.1 - b.1) (gcdZ a.2.2 b.2.2)
    refine fin (gcdZ a.2.2 b.2.2 * (-((a.1 - b.1) / gcdZ a.2.2 b.2.2))) 0 (Int.dvd_mul_right _ _) (by rw [Int.mul_neg]; omega) fun x hx => .inr ?_
    rw [Int.mul_neg] at hx
    omega
/-- the first meeting -/
def FirstM (a b : Wn) : Option (Int × Int) → Prop
  | none => meetB a b = false
  | some r => meetB a b = true ∧ 0 ≤ r.1 ∧ Hit a b r.1 ∧ (∀ k, 0 ≤ k → k < r.1 → ¬ Hit a b k) ∧ r.2 = mOf a b r.1
theorem FirstM.uniq {a b : Wn} : ∀ {o o' : Option (Int × Int)}, FirstM a b o → FirstM a b o' → o = o'
  | none, none, _, _ => rfl
  | none, some r, h, h' => by
    have q : meetB a b = false := h
    have q2 : meetB a b = true := h'.1
    rw [q] at q2; cases q2
  | some r, none, h', h => by
    have q : meetB a b = false := h
    have q2 : meetB a b = true := h'.1
    rw [q] at q2; cases q2
  | some (k, m), some (k', m'), ⟨_, a1, a2, a3, a4⟩, ⟨_, b1, b2, b3, b4⟩ => by
    have a1 : 0 ≤ k := a1
    have b1 : 0 ≤ k' := b1
    have : k = k' := by
      rcases Int.lt_trichotomy k k' with q | q | q
      · exact absurd a2 (b3 k a1 q)
      · exact q
      · exact absurd b2 (a3 k' b1 q)
    subst this
    have a4 : m = _ := a4
    have b4 : m' = _ := b4
    rw [a4, b4]
theorem hit_meet {a b : Wn} (ha : WOk a) (hb : WOk b) (hl : a.2.1 ≠ 0 ∧ b.2.1 ≠ 0) {k : Int} (h : Hit a b k) : meetB a b = true := by
  obtain ⟨m, _, h⟩ := (hit_iff hb k).mp h
  exact meet_of ha hb h hl
theorem bgn_le {a b : Wn} (ha : WOk a) (hb : WOk b) : 0 ≤ bgn a b ∧ bgn a b ≤ 2000 := by
  obtain ⟨oa, _, pa, _⟩ := ha
  obtain ⟨ob, _, _, _⟩ := hb
  unfold bgn
  split
  · refine ⟨by omega, ?_⟩
    by_cases q : 0 ≤ b.1 - a.1
    · exact Int.le_trans (Int.ediv_le_self _ q) (by omega)
    · have := Int.ediv_neg_of_neg_of_pos (show b.1 - a.1 < 0 by omega) (show 0 < a.2.2 by omega)
      omega
  · omega

def mtD (r : Int × Int) : D := .tup [.int r.1, .int r.2]
def optP : Option (Int × Int) → D
  | none => .non
  | some r => mtD r
def c_meet : Ct := fun ws Q => ∃ a b : Wn, ws = [.cl (wD a), .cl (wD b)] ∧ WOk a ∧ WOk b ∧ Q (.cl (.bl (meetB a b)))
theorem l_meet : ∀ ws P, c_meet ws P → ws.length = 2 := by rintro ws P ⟨a, b, rfl, _⟩; rfl
/-- meet: slots 0=first 1=second 2=step -/
def a_meet : AS :=
  aSeq (aIf (aOr (aB (aBin (dEq) (aBin dIx (aV 0) (aC (.int 1))) (aC (.int 0)))) (aB (aBin (dEq) (aBin dIx (aV 1) (aC (.int 1))) (aC (.int 0))))) (aRet (aC (.bl false))) (aNext)) (aSeq (aSetC 2 (aCB fGcd (aCons (aBin dIx (aV 0) (aC (.int 2))) (aCons (aBin dIx (aV 1) (aC (.int 2))) (aNil))))) (aRet (aOrV (aBin (dLt) (aBin dMod (aBin dSub (aBin dIx (aV 1) (aC (.int 0))) (aBin dIx (aV 0) (aC (.int 0)))) (aV 2)) (aBin dIx (aV 0) (aC (.int 1)))) (aBin (dLt) (aBin dMod (aBin dSub (aBin dIx (aV 0) (aC (.int 0))) (aBin dIx (aV 1) (aC (.int 0)))) (aV 2)) (aBin dIx (aV 1) (aC (.int 1)))))))
theorem w_meet : ∀ ws P, c_meet ws P → a_meet { nx := fun _ => P (.cl .non), rt := fun w _ => P w } (startA 3 ws) := by
  rintro ws P ⟨⟨o, l, p⟩, ⟨o2, l2, p2⟩, rfl, ha, hb, h⟩
  show a_meet _ [.im (.tup [.int o, .int l, .int p]), .im (.tup [.int o2, .int l2, .int p2]), .non]
  obtain ⟨_, la, pa, pa2⟩ := ha
  obtain ⟨_, lb, pb, pb2⟩ := hb
  have la : 0 ≤ l ∧ l ≤ 1000 := la
  have lb : 0 ≤ l2 ∧ l2 ≤ 1000 := lb
  have pa : 1 ≤ p := pa
  have g0 := gcd_pos (q := p2) (show 0 < p by omega)
  unfold meetB at h
  unfold a_meet
  walk_at "vs"
  have no : (l = 0 ∨ l2 = 0) → P (.cl (.bl false)) := fun q => by
    rw [decide_eq_false fun r => by rcases q with q | q; exact r.1.1 q; exact r.1.2 q] at h
    exact h
  split
  · rename_i q; exact no (.inl q)
  · rename_i q
    split
    · rename_i q2; exact no (.inr q2)
    · rename_i q2
      refine ⟨g0, ?_⟩
      have e : ((p.natAbs.gcd p2.natAbs : Nat) : Int) = gcdZ p p2 := rfl
      rw [e]
      have g1 : (l ≠ 0 ∧ l2 ≠ 0) := ⟨q, q2⟩
      simp only [show (o, l, p).snd.fst = l from rfl, show (o2, l2, p2).snd.fst = l2 from rfl, show (o, l, p).fst = o from rfl, show (o2, l2, p2).fst = o2 from rfl, show (o, l, p).snd.snd = p from rfl, show (o2, l2, p2).snd.snd = p2 from rfl] at h
      by_cases q3 : (o2 - o) % gcdZ p p2 < l
      · rw [decide_eq_true q3]
        rw [decide_eq_true ⟨g1, .inl q3⟩] at h
        exact h
      · rw [decide_eq_false q3]
        refine ⟨g0, ?_⟩
        by_cases q4 : (o - o2) % gcdZ p p2 < l2
        · rw [decide_eq_true q4]
          rw [decide_eq_true ⟨g1, .inr q4⟩] at h
          exact h
        · rw [decide_eq_false q4]
          rw [decide_eq_false fun r => r.2.elim q3 q4] at h
          exact h
def c_first_meeting : Ct := fun ws Q => ∃ a b : Wn, ws = [.cl (wD a), .cl (wD b)] ∧ WOk a ∧ WOk b ∧ ∀ o, FirstM a b o → Q (.cl (optP o))
theorem l_first_meeting : ∀ ws P, c_first_meeting ws P → ws.length = 2 := by rintro ws P ⟨a, b, rfl, _⟩; rfl
/-- first_meeting: slots 0=first 1=second 2=k 3=start 4=m -/
def a_first_meeting : AS :=
  aSeq (aIf (aNot (aB (aCall c_meet (aCons (aV 0) (aCons (aV 1) (aNil)))))) (aRet (aC .non)) (aNext)) (aSeq (aSetC 2 (aC (.int 0))) (aWhile (aB (aC (.bl true))) (aSeq (aSetC 3 (aBin dAdd (aBin dIx (aV 0) (aC (.int 0))) (aBin dMul (aV 2) (aBin dIx (aV 0) (aC (.int 2)))))) (aSeq (aSetC 4 (aCB fMax2 (aCons (aC (.int 0)) (aCons (aBin dAdd (aBin dDiv (aBin dSub (aBin dSub (aV 3) (aBin dIx (aV 1) (aC (.int 0)))) (aBin dIx (aV 1) (aC (.int 1)))) (aBin dIx (aV 1) (aC (.int 2)))) (aC (.int 1))) (aNil))))) (aSeq (aIf (aB (aBin (dLt) (aBin dAdd (aBin dIx (aV 1) (aC (.int 0))) (aBin dMul (aV 4) (aBin dIx (aV 1) (aC (.int 2))))) (aBin dAdd (aV 3) (aBin dIx (aV 0) (aC (.int 1)))))) (aRet (aTup (aCons (aV 2) (aCons (aV 4) (aNil))))) (aNext)) (aAugAdd 2 (aC (.int 1))))))))
theorem w_first_meeting : ∀ ws P, c_first_meeting ws P → a_first_meeting { nx := fun _ => P (.cl .non), rt := fun w _ => P w } (startA 5 ws) := by
  rintro ws P ⟨a, b, rfl, ha, hb, h⟩
  show a_first_meeting _ [.im (.tup [.int a.1, .int a.2.1, .int a.2.2]), .im (.tup [.int b.1, .int b.2.1, .int b.2.2]), .non, .non, .non]
  have hpa := ha.2.2
  have hpb := hb.2.2
  have hbg := bgn_le ha hb
  unfold a_first_meeting
  walk_at "vs"
  refine ⟨a, b, rfl, ha, hb, ?_⟩
  walk_at "vs"
  cases hm : meetB a b with
  | false => exact h none hm
  | true =>
    obtain ⟨k0, k00, k01, hk0⟩ := hit_near ha hb hm
    walk_at "vs"
    refine while_by (fun m δ => ∃ (k : Int) (x y : AV), δ = [.im (.tup [.int a.1, .int a.2.1, .int a.2.2]), .im (.tup [.int b.1, .int b.2.1, .int b.2.2]), .im (.int k), x, y] ∧ (0 ≤ k ∧ k ≤ k0) ∧ (∀ k', 0 ≤ k' → k' < k → ¬ Hit a b k') ∧ m = (k0 - k).toNat) _ ⟨0, _, _, rfl, ⟨by decide, k00⟩, fun k' h1 h2 => by omega, rfl⟩ ?_
    rintro m δ ⟨k, x, y, rfl, hk, hno, rfl⟩
    walk_at "vs"
    have em : (if (a.1 + k * a.2.2 - b.1 - b.2.1) / b.2.2 + 1 > 0 then (a.1 + k * a.2.2 - b.1 - b.2.1) / b.2.2 + 1 else 0) = mOf a b k := rfl
    simp only [em]
    refine ⟨.inr (by omega), ⟨by omega, by omega⟩, .inr (by omega), ?_⟩
    split
    · rename_i q
      exact ⟨by decide, h (some (k, mOf a b k)) ⟨hm, hk.1, q, hno, rfl⟩⟩
    · rename_i q
      have ne : k ≠ k0 := fun e => q (e ▸ hk0)
      refine ⟨(k0 - (k + 1)).toNat, by omega, k + 1, _, _, rfl, ⟨by omega, by omega⟩, fun k' h1 h2 => ?_, rfl⟩
      by_cases e : k' = k
      · rw [e]; exact q
      · exact hno k' h1 (by omega)
def c__law_common : Ct := fun ws Q => ∃ (a b : Wn) (k m : Int), ws = [.cl (wD a), .cl (wD b), .cl (.int k), .cl (.int m)] ∧ WOk a ∧ WOk b ∧ (a.2.1 ≠ 0 ∧ b.2.1 ≠ 0) ∧ Q (.cl (.bl (decide (a.1 + k * a.2.2 < b.1 + m * b.2.2 + b.2.1 ∧ b.1 + m * b.2.2 < a.1 + k * a.2.2 + a.2.1))))
theorem l__law_common : ∀ ws P, c__law_common ws P → ws.length = 4 := by rintro ws P ⟨a, b, k, m, rfl, _⟩; rfl
/-- _law_common: slots 0=_law_first 1=_law_second 2=_law_k 3=_law_m 4=_law_start 5=_law_stop -/
def a__law_common : AS :=
  aSeq (aSetC 4 (aCB fMax2 (aCons (aBin dAdd (aBin dIx (aV 0) (aC (.int 0))) (aBin dMul (aV 2) (aBin dIx (aV 0) (aC (.int 2))))) (aCons (aBin dAdd (aBin dIx (aV 1) (aC (.int 0))) (aBin dMul (aV 3) (aBin dIx (aV 1) (aC (.int 2))))) (aNil))))) (aSeq (aSetC 5 (aCB fMin2 (aCons (aBin dAdd (aBin dAdd (aBin dIx (aV 0) (aC (.int 0))) (aBin dMul (aV 2) (aBin dIx (aV 0) (aC (.int 2))))) (aBin dIx (aV 0) (aC (.int 1)))) (aCons (aBin dAdd (aBin dAdd (aBin dIx (aV 1) (aC (.int 0))) (aBin dMul (aV 3) (aBin dIx (aV 1) (aC (.int 2))))) (aBin dIx (aV 1) (aC (.int 1)))) (aNil))))) (aRet (aBin (dLt) (aV 4) (aV 5))))
theorem w__law_common : ∀ ws P, c__law_common ws P → a__law_common { nx := fun _ => P (.cl .non), rt := fun w _ => P w } (startA 6 ws) := by
  rintro ws P ⟨a, b, k, m, rfl, ha, hb, hl, h⟩
  show a__law_common _ [.im (.tup [.int a.1, .int a.2.1, .int a.2.2]), .im (.tup [.int b.1, .int b.2.1, .int b.2.2]), .im (.int k), .im (.int m), .non, .non]
  have hpa := ha.2
  have hpb := hb.2
  unfold a__law_common
  walk_at "vs"
  refine ⟨.inr (by omega), .inr (by omega), .inr (by omega), .inr (by omega), ?_⟩
  generalize k * a.2.2 = X at *
  generalize m * b.2.2 = Y at *
  have e : decide (a.1 + X < b.1 + Y + b.2.1 ∧ b.1 + Y < a.1 + X + a.2.1) = decide ((if b.1 + Y > a.1 + X then b.1 + Y else a.1 + X) < (if b.1 + Y + b.2.1 < a.1 + X + a.2.1 then b.1 + Y + b.2.1 else a.1 + X + a.2.1)) := by
    rw [Bool.eq_iff_iff, decide_eq_true_eq, decide_eq_true_eq]
    split <;> split <;> omega
  rw [e] at h
  exact h
def c__law_partner : Ct := fun ws Q => ∃ (a b : Wn) (k : Int), ws = [.cl (wD a), .cl (wD b), .cl (.int k)] ∧ WOk a ∧ WOk b ∧ (0 ≤ k ∧ k ≤ 3000) ∧ ((a.2.1 = 0 ∨ b.2.1 = 0) → Q (.cl .non)) ∧ ((a.2.1 ≠ 0 ∧ b.2.1 ≠ 0) → (Hit a b k → Q (.cl (.int (mOf a b k)))) ∧ (¬ Hit a b k → Q (.cl .non)))
theorem l__law_partner : ∀ ws P, c__law_partner ws P → ws.length = 3 := by rintro ws P ⟨a, b, k, rfl, _⟩; rfl
/-- _law_partner: slots 0=_law_first 1=_law_second 2=_law_k 3=_law_start 4=_law_low 5=_law_m -/
def a__law_partner : AS :=
  aSeq (aIf (aOr (aB (aBin (dEq) (aBin dIx (aV 0) (aC (.int 1))) (aC (.int 0)))) (aB (aBin (dEq) (aBin dIx (aV 1) (aC (.int 1))) (aC (.int 0))))) (aRet (aC .non)) (aNext)) (aSeq (aSetC 3 (aBin dAdd (aBin dIx (aV 0) (aC (.int 0))) (aBin dMul (aV 2) (aBin dIx (aV 0) (aC (.int 2)))))) (aSeq (aSetC 4 (aCB fMax2 (aCons (aC (.int 0)) (aCons (aBin dDiv (aBin dSub (aBin dSub (aV 3) (aBin dIx (aV 1) (aC (.int 0)))) (aBin dIx (aV 1) (aC (.int 1)))) (aBin dIx (aV 1) (aC (.int 2)))) (aNil))))) (aSeq (aFor (iR2 (aCons (aV 4) (aCons (aBin dAdd (aV 4) (aC (.int 3))) (aNil)))) (agN 5) (aIf (aB (aCall c__law_common (aCons (aV 0) (aCons (aV 1) (aCons (aV 2) (aCons (aV 5) (aNil))))))) (aRetV 5) (aNext))) (aRet (aC .non)))))
theorem w__law_partner : ∀ ws P, c__law_partner ws P → a__law_partner { nx := fun _ => P (.cl .non), rt := fun w _ => P w } (startA 6 ws) := by
  rintro ws P ⟨a, b, k, rfl, ha, hb, hk, h1, h2⟩
  show a__law_partner _ [.im (.tup [.int a.1, .int a.2.1, .int a.2.2]), .im (.tup [.int b.1, .int b.2.1, .int b.2.2]), .im (.int k), .non, .non, .non]
  have hpa := ha.2
  have hpb := hb.2
  unfold a__law_partner
  walk_at "vs"
  split
  · rename_i q; exact h1 (.inl q)
  · rename_i q
    split
    · rename_i q2; exact h1 (.inr q2)
    · rename_i q2
      obtain ⟨hy, hn⟩ := h2 ⟨q, q2⟩
      have hx : 0 ≤ k * a.2.2 ∧ k * a.2.2 ≤ 3000 * 60 := ⟨Int.mul_nonneg hk.1 (by omega), Int.mul_le_mul hk.2 hpa.2.2 (by omega) (by decide)⟩
      obtain ⟨oa, _⟩ := ha
      have ha : WOk a := ⟨oa, by assumption⟩
      obtain ⟨ob, hb'⟩ := hb
      have hb : WOk b := ⟨ob, hb'⟩
      have hM : mOf a b k = if (a.1 + k * a.2.2 - b.1 - b.2.1) / b.2.2 + 1 > 0 then (a.1 + k * a.2.2 - b.1 - b.2.1) / b.2.2 + 1 else 0 := rfl
      have hq : (a.1 + k * a.2.2 - b.1 - b.2.1) / b.2.2 ≤ 1000000 := by
        by_cases q : 0 ≤ a.1 + k * a.2.2 - b.1 - b.2.1
        · exact Int.le_trans (Int.ediv_le_self _ q) (by omega)
        · have := Int.ediv_neg_of_neg_of_pos (show a.1 + k * a.2.2 - b.1 - b.2.1 < 0 by omega) (show 0 < b.2.2 by omega)
          omega
      obtain ⟨low, hlow⟩ : ∃ low : Int, low = if (a.1 + k * a.2.2 - b.1 - b.2.1) / b.2.2 > 0 then (a.1 + k * a.2.2 - b.1 - b.2.1) / b.2.2 else 0 := ⟨_, rfl⟩
      rw [← hlow]
      have hl : 0 ≤ low ∧ low ≤ 1000000 ∧ mOf a b k ≤ low + 1 ∧ low ≤ mOf a b k := by
        rw [hM]
        generalize (a.1 + k * a.2.2 - b.1 - b.2.1) / b.2.2 = z at *
        split at hlow <;> split <;> omega
      refine ⟨.inr (by omega), ⟨by omega, by omega⟩, ⟨by omega, by omega, by omega, by omega⟩, ?_⟩
      refine for_up (fun i δ => (∃ x y, δ = [.im (.tup [.int a.1, .int a.2.1, .int a.2.2]), .im (.tup [.int b.1, .int b.2.1, .int b.2.2]), .im (.int k), x, .im (.int low), y]) ∧ (Hit a b k → low + (i : Nat) ≤ mOf a b k)) ⟨⟨_, _, rfl⟩, fun _ => by omega⟩ ?_ ?_
      · rintro i δ hi ⟨⟨x, y, rfl⟩, hh⟩
        walk_at "vs"
        refine ⟨a, b, k, low + (i : Nat), rfl, ha, hb, ⟨q, q2⟩, ?_⟩
        have m0 := mOf_le (a := a) hb (k := k) (show 0 ≤ low + (i : Nat) by omega)
        by_cases c1 : (a.1 + k * a.2.2 < b.1 + (low + (i : Nat)) * b.2.2 + b.2.1 ∧ b.1 + (low + (i : Nat)) * b.2.2 < a.1 + k * a.2.2 + a.2.1)
        · rw [decide_eq_true c1]
          have hit : Hit a b k := (hit_iff hb k).mpr ⟨_, by omega, c1.2, c1.1⟩
          have e1 := m0.mp c1.1
          have e2 := hh hit
          have e3 : mOf a b k = low + (i : Nat) := by omega
          have := hy hit
          rw [e3] at this
          exact this
        · rw [decide_eq_false c1]
          walk_at "vs"
          refine ⟨⟨_, _, rfl⟩, fun hit => ?_⟩
          have e2 := hh hit
          by_cases e3 : mOf a b k = low + (i : Nat)
          · refine absurd ⟨m0.mpr (by omega), ?_⟩ c1
            rw [← e3]; exact hit
          · omega
      · rintro δ ⟨⟨x, y, rfl⟩, hh⟩
        walk_at "vs"
        refine hn fun hit => ?_
        have := hh hit
        omega
def c__law_due : Ct := fun ws Q => ∃ (a b : Wn), ws = [.cl (wD a), .cl (wD b)] ∧ WOk a ∧ WOk b ∧ ∀ o, FirstM a b o → Q (.cl (optP o))
theorem l__law_due : ∀ ws P, c__law_due ws P → ws.length = 2 := by rintro ws P ⟨a, b, rfl, _⟩; rfl
/-- _law_due: slots 0=_law_first 1=_law_second 2=_law_begin 3=_law_k 4=_law_m -/
def a__law_due : AS :=
  aSeq (aSetC 2 (aCB fMax2 (aCons (aC (.int 0)) (aCons (aBin dDiv (aBin dSub (aBin dIx (aV 1) (aC (.int 0))) (aBin dIx (aV 0) (aC (.int 0)))) (aBin dIx (aV 0) (aC (.int 2)))) (aNil))))) (aSeq (aFor (iR1 (aCons (aBin dAdd (aV 2) (aC (.int 70))) (aNil))) (agN 3) (aSeq (aSetC 4 (aCall c__law_partner (aCons (aV 0) (aCons (aV 1) (aCons (aV 3) (aNil)))))) (aIf (aB (aBin (dNotN) (aV 4) (aC .non))) (aRet (aTup (aCons (aV 3) (aCons (aV 4) (aNil))))) (aNext)))) (aRet (aC .non)))
theorem w__law_due : ∀ ws P, c__law_due ws P → a__law_due { nx := fun _ => P (.cl .non), rt := fun w _ => P w } (startA 5 ws) := by
  rintro ws P ⟨a, b, rfl, ha, hb, h⟩
  show a__law_due _ [.im (.tup [.int a.1, .int a.2.1, .int a.2.2]), .im (.tup [.int b.1, .int b.2.1, .int b.2.2]), .non, .non, .non]
  have hpa := ha.2
  have hpb := hb.2
  have hbg := bgn_le ha hb
  unfold a__law_due
  walk_at "vs"
  have eb : (if (b.1 - a.1) / a.2.2 > 0 then (b.1 - a.1) / a.2.2 else 0) = bgn a b := rfl
  rw [eb]
  refine ⟨⟨by omega, by omega⟩, ⟨by omega, by omega⟩, ?_⟩
  refine for_up (fun i δ => (∃ x y, δ = [.im (.tup [.int a.1, .int a.2.1, .int a.2.2]), .im (.tup [.int b.1, .int b.2.1, .int b.2.2]), .im (.int (bgn a b)), x, y]) ∧ ((a.2.1 ≠ 0 ∧ b.2.1 ≠ 0) → ∀ k : Int, 0 ≤ k → k < ((i : Nat) : Int) → ¬ Hit a b k)) ⟨⟨_, _, rfl⟩, fun _ k h1 h2 => by omega⟩ ?_ ?_
  · rintro i δ hi ⟨⟨x, y, rfl⟩, hh⟩
    walk_at "vs"
    refine ⟨a, b, 0 + (i : Int), rfl, ha, hb, ⟨by omega, by omega⟩, fun q => ?_, fun q => ⟨fun hit => ?_, fun hno => ?_⟩⟩
    · walk_at "vs"
      exact ⟨⟨_, _, rfl⟩, fun q2 => by rcases q with q | q; exact absurd q q2.1; exact absurd q q2.2⟩
    · walk_at "vs"
      refine ⟨by decide, h (some (0 + (i : Int), _)) ⟨hit_meet ha hb q hit, by show 0 ≤ 0 + (i : Int); omega, hit, fun k h1 h2 => hh q k h1 (by have h2 : k < 0 + (i : Int) := h2; omega), rfl⟩⟩
    · walk_at "vs"
      refine ⟨⟨_, _, rfl⟩, fun _ k h1 h2 => ?_⟩
      by_cases e : k = 0 + (i : Int)
      · rw [e]; exact hno
      · exact hh q k h1 (by omega)
  · rintro δ ⟨⟨x, y, rfl⟩, hh⟩
    walk_at "vs"
    refine h none ?_
    cases hm : meetB a b with
    | false => exact hm
    | true =>
      obtain ⟨k, k1, k2, k3⟩ := hit_near ha hb hm
      have hm2 := hm
      unfold meetB at hm2
      rw [decide_eq_true_eq] at hm2
      exact absurd k3 (hh hm2.1 k k1 (by omega))
def c__law_window : Ct := fun ws Q => ∃ c : Int, ws = [.cl (.int c)] ∧ ∀ w : Wn, WOk w → Q (.cl (wD w))
theorem l__law_window : ∀ ws P, c__law_window ws P → ws.length = 1 := by rintro ws P ⟨c, rfl, _⟩; rfl
/-- _law_window: slots 0=_law_cell 1=_law_numbers 2=_law_period 3=_law_length 4=_law_offset -/
def a__law_window : AS :=
  aSeq (aSetC 1 (aCall c__law_draw (aCons (aV 0) (aCons (aC (.int 4)) (aCons (aBin dShl (aC (.int 1)) (aC (.int 20))) (aNil)))))) (aSeq (aSetC 2 (aBin dAdd (aC (.int 1)) (aBin dMod (aBin dIx (aV 1) (aC (.int 0))) (aC (.int 12))))) (aCut (aIf (aB (aBin (dEq) (aBin dMod (aBin dDiv (aBin dIx (aV 1) (aC (.int 0))) (aC (.int 12))) (aC (.int 4))) (aC (.int 1)))) (aSetC 2 (aBin dAdd (aC (.int 1)) (aBin dMod (aBin dDiv (aBin dIx (aV 1) (aC (.int 0))) (aC (.int 48))) (aC (.int 60))))) (aNext)) (aSeq (aSetC 3 (aBin dMod (aBin dIx (aV 1) (aC (.int 1))) (aBin dAdd (aV 2) (aC (.int 3))))) (aCut (aIf (aB (aBin (dGt) (aBin dMod (aBin dDiv (aBin dIx (aV 1) (aC (.int 1))) (aC (.int 20))) (aC (.int 4))) (aC (.int 0)))) (aSetC 3 (aBin dAdd (aC (.int 1)) (aBin dMod (aBin dIx (aV 1) (aC (.int 1))) (aC (.int 3))))) (aNext)) (aSeq (aSetC 4 (aBin dSub (aBin dMod (aBin dIx (aV 1) (aC (.int 2))) (aC (.int 40))) (aC (.int 8)))) (aCut (aIf (aB (aBin (dEq) (aBin dMod (aBin dIx (aV 1) (aC (.int 3))) (aC (.int 12))) (aC (.int 0)))) (aSetC 4 (aBin dSub (aBin dMod (aBin dIx (aV 1) (aC (.int 2))) (aC (.int 1000))) (aC (.int 300)))) (aNext)) (aRet (aTup (aCons (aV 4) (aCons (aV 3) (aCons (aV 2) (aNil))))))))))))
theorem w__law_window : ∀ ws P, c__law_window ws P → a__law_window { nx := fun _ => P (.cl .non), rt := fun w _ => P w } (startA 5 ws) := by
  rintro ws P ⟨c, rfl, h⟩
  show a__law_window _ [.im (.int c), .non, .non, .non, .non]
  unfold a__law_window
  walk_at "vs"
  refine ⟨by decide, c, 4, _, rfl, by decide, by decide, by decide, fun xs hl hx => ?_⟩
  obtain ⟨x, y, z, e', rfl⟩ := len_4 (show xs.length = 4 from hl)
  have hx1 := hx x (by simp)
  have hy := hx y (by simp)
  have hz := hx z (by simp)
  simp only [List.map_cons, List.map_nil]
  walk_at "vs"
  refine ⟨by decide, cut_by (fun δ => ∃ p : Int, (1 ≤ p ∧ p ≤ 60) ∧ δ = [.im (.int c), .im (.lst [.int x, .int y, .int z, .int e']), .im (.int p), .non, .non]) ?_ ?_⟩
  · walk_at "vs"
    refine ⟨by decide, by decide, ?_⟩
    split
    · exact ⟨by decide, by decide, 1 + x / 48 % 60, by omega, rfl⟩
    · exact ⟨1 + x % 12, by omega, rfl⟩
  rintro δ ⟨p, hp, rfl⟩
  walk_at "vs"
  have hy0 := Int.emod_nonneg y (show p + 3 ≠ 0 by omega)
  have hy1 := Int.emod_lt_of_pos y (show 0 < p + 3 by omega)
  refine ⟨by omega, cut_by (fun δ => ∃ l : Int, (0 ≤ l ∧ l ≤ 1000) ∧ δ = [.im (.int c), .im (.lst [.int x, .int y, .int z, .int e']), .im (.int p), .im (.int l), .non]) ?_ ?_⟩
  · walk_at "vs"
    refine ⟨by decide, by decide, ?_⟩
    split
    · exact ⟨by decide, 1 + y % 3, by omega, rfl⟩
    · exact ⟨_, by omega, rfl⟩
  rintro δ ⟨l, hl2, rfl⟩
  walk_at "vs"
  refine ⟨by decide, cut_by (fun δ => ∃ o : Int, (-1000 ≤ o ∧ o ≤ 1000) ∧ δ = [.im (.int c), .im (.lst [.int x, .int y, .int z, .int e']), .im (.int p), .im (.int l), .im (.int o)]) ?_ ?_⟩
  · walk_at "vs"
    refine ⟨by decide, ?_⟩
    split
    · exact ⟨by decide, z % 1000 - 300, by omega, rfl⟩
    · exact ⟨z % 40 - 8, by omega, rfl⟩
  rintro δ ⟨o, ho, rfl⟩
  walk_at "vs"
  exact ⟨by decide, h (o, l, p) ⟨ho, hl2, hp⟩⟩
def c_law : Ct := fun ws Q => ∃ ns : List Int, ws = [.cl (.scr ns)] ∧ ns.length ≤ 63 ∧ Q (.cl (.bl true))
theorem l_law : ∀ ws P, c_law ws P → ws.length = 1 := by rintro ws P ⟨c, rfl, _⟩; rfl
/-- law: slots 0=_law_script 1=_law_turn 2=_law_cells 3=_law_first 4=_law_second 5=_law_due_here 6=_law_told 7=_law_found -/
def a_law : AS :=
  aSeq (aFor (iR1 (aCons (aC (.int 12)) (aNil))) (agN 1) (aSeq (aSetC 2 (aBin dAdd (aSl (aV 0) (aoS (aBin dMul (aC (.int 2)) (aV 1))) (aoS (aBin dAdd (aBin dMul (aC (.int 2)) (aV 1)) (aC (.int 2))))) (aLst (aCons (aV 1) (aCons (aBin dAdd (aV 1) (aC (.int 1))) (aNil)))))) (aSeq (aSetC 3 (aCall c__law_window (aCons (aBin dIx (aV 2) (aC (.int 0))) (aNil)))) (aSeq (aSetC 4 (aCall c__law_window (aCons (aBin dIx (aV 2) (aC (.int 1))) (aNil)))) (aSeq (aSetC 5 (aCall c__law_due (aCons (aV 3) (aCons (aV 4) (aNil))))) (aSeq (aSetC 6 (aCall c_meet (aCons (aV 3) (aCons (aV 4) (aNil))))) (aSeq (aIf (aOr (aNot (aB (aIsi "bool" (aV 6)))) (aOr (aB (aBin (dNe) (aV 6) (aBin (dNotN) (aV 5) (aC .non)))) (aB (aBin (dNe) (aCall c_meet (aCons (aV 4) (aCons (aV 3) (aNil)))) (aV 6))))) (aRet (aC (.bl false))) (aNext)) (aSeq (aSetC 7 (aCall c_first_meeting (aCons (aV 3) (aCons (aV 4) (aNil))))) (aIf (aOr (aB (aBin (dNe) (aV 7) (aV 5))) (aAnd (aB (aBin (dNotN) (aV 7) (aC .non))) (aNot (aB (aCall c__law_is_integer (aCons (aBin dIx (aV 7) (aC (.int 0))) (aNil))))))) (aRet (aC (.bl false))) (aNext)))))))))) (aRet (aC (.bl true)))
theorem w_law : ∀ ws P, c_law ws P → a_law { nx := fun _ => P (.cl .non), rt := fun w _ => P w } (startA 8 ws) := by
  rintro ws P ⟨ns, rfl, hns, h⟩
  show a_law _ [.im (.scr ns), .non, .non, .non, .non, .non, .non, .non]
  unfold a_law
  walk_at "vs"
  refine ⟨by decide, for_up (fun i δ => ∃ a b c d e f g, δ = [.im (.scr ns), a, b, c, d, e, f, g]) ⟨_, _, _, _, _, _, _, rfl⟩ ?_ ?_⟩
  · rintro i δ hi ⟨a, b, c, d, e, f, g, rfl⟩
    walk_at "vs"
    have hi : i < 12 := hi
    rw [cutD_cutL]
    have hcl := cutL_len ns (some (2 * (0 + (i : Int)))) (some (2 * (0 + (i : Int)) + 2))
    obtain ⟨x, y, r, hr⟩ : ∃ x y r, cutL ns (some (2 * (0 + (i : Int)))) (some (2 * (0 + (i : Int)) + 2)) ++ [0 + (i : Int), 0 + (i : Int) + 1] = x :: y :: r := by
      generalize cutL ns (some (2 * (0 + (i : Int)))) (some (2 * (0 + (i : Int)) + 2)) = L
      match L with
      | [] => exact ⟨_, _, _, rfl⟩
      | [_] => exact ⟨_, _, _, rfl⟩
      | _ :: _ :: _ => exact ⟨_, _, _, rfl⟩
    have hr2 : List.map D.int (cutL ns (some (2 * (0 + (i : Int)))) (some (2 * (0 + (i : Int)) + 2))) ++ [D.int (0 + (i : Int)), D.int (0 + (i : Int) + 1)] = .int x :: .int y :: r.map D.int := by
      have := congrArg (List.map D.int) hr
      rw [List.map_append] at this
      exact this
    rw [hr2, List.length_map]
    refine ⟨.inl (by decide), .inl (by decide), by decide, by omega, ?_⟩
    walk_at "vs"
    refine ⟨x, rfl, fun A hA => ?_⟩
    walk_at "vs"
    refine ⟨y, rfl, fun B hB => ?_⟩
    walk_at "vs"
    refine ⟨A, B, rfl, hA, hB, fun o ho => ?_⟩
    walk_at "vs"
    refine ⟨A, B, rfl, hA, hB, ?_⟩
    walk_at "vs"
    have e5 : ∀ d, okD (mtD d) = true ∧ eqD (mtD d) (mtD d) = true := fun d => by
      have : okD (mtD d) = true := (show dep 1 (mtD d) from dep_tup fun x hx => by
        simp only [List.mem_cons, List.not_mem_nil, or_false] at hx
        rcases hx with rfl | rfl <;> exact dep_int 0 _).1
      exact ⟨this, eqD_lst_refl _ (SeqAt.canLay_of_shaped this)⟩
    cases o with
    | none =>
      have hm : meetB A B = false := ho
      simp only [hm, optP]
      rw [if_neg (by decide)]
      refine ⟨B, A, rfl, hB, hA, ?_⟩
      rw [meetB_comm, hm]
      walk_at "vs"
      rw [if_neg (by decide)]
      refine ⟨A, B, rfl, hA, hB, fun o' ho' => ?_⟩
      cases ho'.uniq ho
      walk_at "vs"
      simp only [optP]
      walk_at "vs"
      exact ⟨_, _, _, _, _, _, _, rfl⟩
    | some o =>
      have hm : meetB A B = true := ho.1
      simp only [hm, optP, mtD]
      rw [if_neg (by decide)]
      refine ⟨B, A, rfl, hB, hA, ?_⟩
      rw [meetB_comm, hm]
      walk_at "vs"
      simp only [beq_self_eq_true, Bool.not_true, Bool.false_eq_true, if_false]
      refine ⟨A, B, rfl, hA, hB, fun o' ho' => ?_⟩
      cases ho'.uniq ho
      have e6 := e5 o
      simp only [mtD] at e6
      walk_at "vs"
      simp only [optP, mtD, e6]
      walk_at "vs"
      refine ⟨_, rfl, .inl ⟨o.1, rfl, ?_⟩⟩
      walk_at "vs"
      exact ⟨_, _, _, _, _, _, _, rfl⟩
  · rintro δ ⟨a, b, c, d, e, f, g, rfl⟩
    walk_at "vs"
    exact h
end Vl
namespace Vl
open PySem PySem.Spec PyProof.Rows L2
/-! ### the text -/
def topS (i : Nat) : Stmt := PySem.Challenge.pw_metronet_k04_windows_that_meet.main.body.getD i (.Pass ⟨0, 0, 0, 0⟩)
abbrev s_meet : Stmt := topS 2
abbrev N_meet : List Str := ["first", "second", "step"]
theorem sc_meet : FnScope N_meet ["first", "second"] (defScope s_meet) := ⟨rfl, rfl, rfl, by decide +kernel, rfl, by decide +kernel, by decide +kernel⟩
abbrev s_first_meeting : Stmt := topS 3
abbrev N_first_meeting : List Str := ["first", "second", "k", "start", "m"]
theorem sc_first_meeting : FnScope N_first_meeting ["first", "second"] (defScope s_first_meeting) := ⟨rfl, rfl, rfl, by decide +kernel, rfl, by decide +kernel, by decide +kernel⟩
abbrev s__law_is_integer : Stmt := topS 6
abbrev N__law_is_integer : List Str := ["_law_actual"]
theorem sc__law_is_integer : FnScope N__law_is_integer ["_law_actual"] (defScope s__law_is_integer) := ⟨rfl, rfl, rfl, by decide +kernel, rfl, by decide +kernel, by decide +kernel⟩
abbrev s__law_draw : Stmt := topS 5
abbrev N__law_draw : List Str := ["_law_cell", "_law_many", "_law_bound", "_law_numbers", "_law_k", "_law_seed", "_law_mixed"]
theorem sc__law_draw : FnScope N__law_draw ["_law_cell", "_law_many", "_law_bound"] (defScope s__law_draw) := ⟨rfl, rfl, rfl, by decide +kernel, rfl, by decide +kernel, by decide +kernel⟩
abbrev s__law_window : Stmt := topS 7
abbrev N__law_window : List Str := ["_law_cell", "_law_numbers", "_law_period", "_law_length", "_law_offset"]
theorem sc__law_window : FnScope N__law_window ["_law_cell"] (defScope s__law_window) := ⟨rfl, rfl, rfl, by decide +kernel, rfl, by decide +kernel, by decide +kernel⟩
abbrev s__law_common : Stmt := topS 8
abbrev N__law_common : List Str := ["_law_first", "_law_second", "_law_k", "_law_m", "_law_start", "_law_stop"]
theorem sc__law_common : FnScope N__law_common ["_law_first", "_law_second", "_law_k", "_law_m"] (defScope s__law_common) := ⟨rfl, rfl, rfl, by decide +kernel, rfl, by decide +kernel, by decide +kernel⟩
abbrev s__law_partner : Stmt := topS 9
abbrev N__law_partner : List Str := ["_law_first", "_law_second", "_law_k", "_law_start", "_law_low", "_law_m"]
theorem sc__law_partner : FnScope N__law_partner ["_law_first", "_law_second", "_law_k"] (defScope s__law_partner) := ⟨rfl, rfl, rfl, by decide +kernel, rfl, by decide +kernel, by decide +kernel⟩
abbrev s__law_due : Stmt := topS 10
abbrev N__law_due : List Str := ["_law_first", "_law_second", "_law_begin", "_law_k", "_law_m"]
theorem sc__law_due : FnScope N__law_due ["_law_first", "_law_second"] (defScope s__law_due) := ⟨rfl, rfl, rfl, by decide +kernel, rfl, by decide +kernel, by decide +kernel⟩
abbrev s_law : Stmt := topS 11
abbrev N_law : List Str := ["_law_script", "_law_turn", "_law_cells", "_law_first", "_law_second", "_law_due_here", "_law_told", "_law_found"]
theorem sc_law : FnScope N_law ["_law_script"] (defScope s_law) := ⟨rfl, rfl, rfl, by decide +kernel, rfl, by decide +kernel, by decide +kernel⟩
structure Tx (K : PySem.W.Frag) (mg : Str → Option Value) where
  f_meet : Addr
  d_meet : FuncData
  F_meet : Fun K "meet" "meet" s_meet f_meet d_meet
  b_meet : Binds K d_meet ["first", "second"] []
  m_meet : mg "meet" = some (.ref f_meet)
  f_first_meeting : Addr
  d_first_meeting : FuncData
  F_first_meeting : Fun K "first_meeting" "first_meeting" s_first_meeting f_first_meeting d_first_meeting
  b_first_meeting : Binds K d_first_meeting ["first", "second"] []
  m_first_meeting : mg "first_meeting" = some (.ref f_first_meeting)
  f__law_is_integer : Addr
  d__law_is_integer : FuncData
  F__law_is_integer : Fun K "_law_is_integer" "_law_is_integer" s__law_is_integer f__law_is_integer d__law_is_integer
  b__law_is_integer : Binds K d__law_is_integer ["_law_actual"] []
  m__law_is_integer : mg "_law_is_integer" = some (.ref f__law_is_integer)
  f__law_draw : Addr
  d__law_draw : FuncData
  F__law_draw : Fun K "_law_draw" "_law_draw" s__law_draw f__law_draw d__law_draw
  b__law_draw : Binds K d__law_draw ["_law_cell", "_law_many", "_law_bound"] []
  m__law_draw : mg "_law_draw" = some (.ref f__law_draw)
  f__law_window : Addr
  d__law_window : FuncData
  F__law_window : Fun K "_law_window" "_law_window" s__law_window f__law_window d__law_window
  b__law_window : Binds K d__law_window ["_law_cell"] []
  m__law_window : mg "_law_window" = some (.ref f__law_window)
  f__law_common : Addr
  d__law_common : FuncData
  F__law_common : Fun K "_law_common" "_law_common" s__law_common f__law_common d__law_common
  b__law_common : Binds K d__law_common ["_law_first", "_law_second", "_law_k", "_law_m"] []
  m__law_common : mg "_law_common" = some (.ref f__law_common)
  f__law_partner : Addr
  d__law_partner : FuncData
  F__law_partner : Fun K "_law_partner" "_law_partner" s__law_partner f__law_partner d__law_partner
  b__law_partner : Binds K d__law_partner ["_law_first", "_law_second", "_law_k"] []
  m__law_partner : mg "_law_partner" = some (.ref f__law_partner)
  f__law_due : Addr
  d__law_due : FuncData
  F__law_due : Fun K "_law_due" "_law_due" s__law_due f__law_due d__law_due
  b__law_due : Binds K d__law_due ["_law_first", "_law_second"] []
  m__law_due : mg "_law_due" = some (.ref f__law_due)
  f_law : Addr
  d_law : FuncData
  F_law : Fun K "law" "law" s_law f_law d_law
  b_law : Binds K d_law ["_law_script"] []
  m_law : mg "law" = some (.ref f_law)
  i_gcd : mg "gcd" = some (.builtin "math.gcd")
  n_bool : mg "bool" = none
  n_int : mg "int" = none
  n_isinstance : mg "isinstance" = none
  n_max : mg "max" = none
  n_min : mg "min" = none
  n_range : mg "range" = none
def tb {K : PySem.W.Frag} {mg : Str → Option Value} (t : Tx K mg) : Tb := ⟨K, fun _ => 0, fun _ => []⟩
section
variable {P : Program} {w : World} {K : PySem.W.Frag} {mg : Str → Option Value} {base : Heap}
theorem ok_meet (t : Tx K mg) : FnOk P w K mg base CX0 1 t.f_meet t.d_meet ["first", "second"] (spC (tb t) c_meet) :=
  fn_ok (T := tb t) (a := a_meet) t.F_meet sc_meet l_meet (by decide) (fun cdv A outer s H E hr =>
    ss_cons (s_if (PW.pt (w_or (t_cmp (op_eqD hr.u64) b_eq (e_ix rfl (e_v 0) (e_int) (fun _ _ => rfl)) (e_int) (nomark _)) (w_or1 (t_cmp (op_eqD hr.u64) b_eq (e_ix rfl (e_v 1) (e_int) (fun _ _ => rfl)) (e_int) (nomark _))))) (ss_one (s_ret (e_bl))) (ss_nil)) (ss_cons (s_setC (i := 2) sc_meet.nd rfl (by first | exact .inl rfl | exact .inr rfl) (e_cbf cr_gcd c_gcd (by rfl) t.i_gcd (a_cons (e_ix rfl (e_v 0) (e_int) (fun _ _ => rfl)) (a_cons (e_ix rfl (e_v 1) (e_int) (fun _ _ => rfl)) (a_nil))))) (ss_one (s_ret (e_or (e_cmp op_lt b_lt (e_bin op_mod b_mod (e_bin op_sub b_sub (e_ix rfl (e_v 1) (e_int) (fun _ _ => rfl)) (e_ix rfl (e_v 0) (e_int) (fun _ _ => rfl))) (e_v 2)) (e_ix rfl (e_v 0) (e_int) (fun _ _ => rfl)) (nomark _)) (e_one (e_cmp op_lt b_lt (e_bin op_mod b_mod (e_bin op_sub b_sub (e_ix rfl (e_v 0) (e_int) (fun _ _ => rfl)) (e_ix rfl (e_v 1) (e_int) (fun _ _ => rfl))) (e_v 2)) (e_ix rfl (e_v 1) (e_int) (fun _ _ => rfl)) (nomark _)))))))) w_meet
theorem ok_first_meeting (t : Tx K mg) : FnOk P w K mg base CX0 2 t.f_first_meeting t.d_first_meeting ["first", "second"] (spC (tb t) c_first_meeting) :=
  fn_ok (T := tb t) (a := a_first_meeting) t.F_first_meeting sc_first_meeting l_first_meeting (by decide) (fun cdv A outer s H E hr =>
    ss_cons (s_if (t_not (t_val (e_call (ok_meet t) (hr.mono (by decide)) (by rfl) t.m_meet t.F_meet.kp t.b_meet (a_cons (e_v 0) (a_cons (e_v 1) (a_nil)))))) (ss_one (s_ret (e_non))) (ss_nil)) (ss_cons (s_setC (i := 2) sc_first_meeting.nd rfl (by first | exact .inl rfl | exact .inr rfl) (e_int)) (ss_one (s_while PassesOwn.never (t_val (e_bl)) (ss_cons (s_setC (i := 3) sc_first_meeting.nd rfl (by first | exact .inl rfl | exact .inr rfl) (e_bin op_addAll b_add (e_ix rfl (e_v 0) (e_int) (fun _ _ => rfl)) (e_bin op_mulAll b_mulAll (e_v 2) (e_ix rfl (e_v 0) (e_int) (fun _ _ => rfl))))) (ss_cons (s_setC (i := 4) sc_first_meeting.nd rfl (by first | exact .inl rfl | exact .inr rfl) (e_cb (call_max2 rfl) c_max2 (by rfl) t.n_max (by decide +kernel) (a_cons (e_int) (a_cons (e_bin op_addAll b_add (e_bin op_fdiv b_div (e_bin op_sub b_sub (e_bin op_sub b_sub (e_v 3) (e_ix rfl (e_v 1) (e_int) (fun _ _ => rfl))) (e_ix rfl (e_v 1) (e_int) (fun _ _ => rfl))) (e_ix rfl (e_v 1) (e_int) (fun _ _ => rfl))) (e_int)) (a_nil))))) (ss_cons (s_if (t_cmp op_lt b_lt (e_bin op_addAll b_add (e_ix rfl (e_v 1) (e_int) (fun _ _ => rfl)) (e_bin op_mulAll b_mulAll (e_v 4) (e_ix rfl (e_v 1) (e_int) (fun _ _ => rfl)))) (e_bin op_addAll b_add (e_v 3) (e_ix rfl (e_v 0) (e_int) (fun _ _ => rfl))) (nomark _)) (ss_one (s_ret (e_tup (a_cons (e_v 2) (a_cons (e_v 4) (a_nil)))))) (ss_nil)) (ss_one (s_augAdd (i := 2) sc_first_meeting.nd rfl (by first | exact .inl rfl | exact .inr rfl) (e_int)))))))))) w_first_meeting
theorem ok__law_is_integer (t : Tx K mg) : FnOk P w K mg base CX0 1 t.f__law_is_integer t.d__law_is_integer ["_law_actual"] (spC (tb t) c__law_is_integer) :=
  fn_ok (T := tb t) (a := a__law_is_integer) t.F__law_is_integer sc__law_is_integer l__law_is_integer (by decide) (fun cdv A outer s H E hr =>
    ss_one (s_ret (e_and (e_isi (t := "int") t.n_isinstance (by rfl) (by rfl) t.n_int (by decide +kernel) (e_v 0) rfl) (e_one (e_not (e_isi (t := "bool") t.n_isinstance (by rfl) (by rfl) t.n_bool (by decide +kernel) (e_v 0) rfl)))))) w__law_is_integer
theorem ok__law_draw (t : Tx K mg) : FnOk P w K mg base CX0 1 t.f__law_draw t.d__law_draw ["_law_cell", "_law_many", "_law_bound"] (spC (tb t) c__law_draw) :=
  fn_ok (T := tb t) (a := a__law_draw) t.F__law_draw sc__law_draw l__law_draw (by decide) (fun cdv A outer s H E hr =>
    ss_cons (s_set (i := 3) sc__law_draw.nd rfl (by first | exact .inl rfl | exact .inr rfl) (e_lst (a_nil))) (ss_cons (s_if (t_cmp op_ge b_ge (e_v 0) (e_bin op_pow b_pow (e_int) (e_int)) (nomark _)) (ss_cons (s_for PassesOwn.never rfl (i_r1 (by rfl) t.n_range (a_cons (e_v 1) (a_nil))) (g_name (i := 4) sc__law_draw.nd rfl (by first | exact .inl rfl | exact .inr rfl)) (ss_cons (s_mut m_append rfl (ps_expr (pe_bm PySem.F.plainAttrs_list PySem.F.slot_list_append PySem.F.type_list_append mt_append (pv 3) (a_cons (e_bin op_mod b_mod (e_cty call_int1 c_int (by rfl) t.n_int (by decide +kernel) (a_cons (e_v 0) (a_nil))) (e_v 2)) (a_nil))))) (ss_one (s_setC (i := 0) sc__law_draw.nd rfl (by first | exact .inl rfl | exact .inr rfl) (e_bin op_fdiv b_div (e_v 0) (e_v 2)))))) (ss_one (s_retV 3))) (ss_nil)) (ss_cons (s_setC (i := 5) sc__law_draw.nd rfl (by first | exact .inl rfl | exact .inr rfl) (e_bin op_mod b_mod (e_cty call_int1 c_int (by rfl) t.n_int (by decide +kernel) (a_cons (e_v 0) (a_nil))) (e_int))) (ss_cons (s_for PassesOwn.never rfl (i_r1 (by rfl) t.n_range (a_cons (e_v 1) (a_nil))) (g_name (i := 4) sc__law_draw.nd rfl (by first | exact .inl rfl | exact .inr rfl)) (ss_cons (s_setC (i := 5) sc__law_draw.nd rfl (by first | exact .inl rfl | exact .inr rfl) (e_bin op_mod b_mod (e_cty call_int1 c_int (by rfl) t.n_int (by decide +kernel) (a_cons (e_bin op_addAll b_add (e_bin op_addAll b_add (e_bin op_mulAll b_mulAll (e_v 5) (e_int)) (e_int)) (e_v 4)) (a_nil))) (e_int))) (ss_cons (s_setC (i := 6) sc__law_draw.nd rfl (by first | exact .inl rfl | exact .inr rfl) (e_bin op_mod b_mod (e_cty call_int1 c_int (by rfl) t.n_int (by decide +kernel) (a_cons (e_bin op_addAll b_add (e_bin op_mulAll b_mulAll (e_v 5) (e_int)) (e_bin op_mulAll b_mulAll (e_int) (e_v 4))) (a_nil))) (e_int))) (ss_one (s_mut m_append rfl (ps_expr (pe_bm PySem.F.plainAttrs_list PySem.F.slot_list_append PySem.F.type_list_append mt_append (pv 3) (a_cons (e_bin op_mod b_mod (e_cty call_int1 c_int (by rfl) t.n_int (by decide +kernel) (a_cons (e_bin op_fdiv b_div (e_v 6) (e_int)) (a_nil))) (e_v 2)) (a_nil))))))))) (ss_one (s_retV 3)))))) w__law_draw
theorem ok__law_window (t : Tx K mg) : FnOk P w K mg base CX0 2 t.f__law_window t.d__law_window ["_law_cell"] (spC (tb t) c__law_window) :=
  fn_ok (T := tb t) (a := a__law_window) t.F__law_window sc__law_window l__law_window (by decide) (fun cdv A outer s H E hr =>
    ss_cons (s_setC (i := 1) sc__law_window.nd rfl (by first | exact .inl rfl | exact .inr rfl) (e_call (ok__law_draw t) (hr.mono (by decide)) (by rfl) t.m__law_draw t.F__law_draw.kp t.b__law_draw (a_cons (e_v 0) (a_cons (e_int) (a_cons (e_bin op_shl b_shl (e_int) (e_int)) (a_nil)))))) (ss_cons (s_setC (i := 2) sc__law_window.nd rfl (by first | exact .inl rfl | exact .inr rfl) (e_bin op_addAll b_add (e_int) (e_bin op_mod b_mod (e_ix rfl (e_v 1) (e_int) (fun _ _ => rfl)) (e_int)))) (ss_cut (s_if (t_cmp (op_eqD hr.u64) b_eq (e_bin op_mod b_mod (e_bin op_fdiv b_div (e_ix rfl (e_v 1) (e_int) (fun _ _ => rfl)) (e_int)) (e_int)) (e_int) (nomark _)) (ss_one (s_setC (i := 2) sc__law_window.nd rfl (by first | exact .inl rfl | exact .inr rfl) (e_bin op_addAll b_add (e_int) (e_bin op_mod b_mod (e_bin op_fdiv b_div (e_ix rfl (e_v 1) (e_int) (fun _ _ => rfl)) (e_int)) (e_int))))) (ss_nil)) (ss_cons (s_setC (i := 3) sc__law_window.nd rfl (by first | exact .inl rfl | exact .inr rfl) (e_bin op_mod b_mod (e_ix rfl (e_v 1) (e_int) (fun _ _ => rfl)) (e_bin op_addAll b_add (e_v 2) (e_int)))) (ss_cut (s_if (t_cmp op_gt b_gt (e_bin op_mod b_mod (e_bin op_fdiv b_div (e_ix rfl (e_v 1) (e_int) (fun _ _ => rfl)) (e_int)) (e_int)) (e_int) (nomark _)) (ss_one (s_setC (i := 3) sc__law_window.nd rfl (by first | exact .inl rfl | exact .inr rfl) (e_bin op_addAll b_add (e_int) (e_bin op_mod b_mod (e_ix rfl (e_v 1) (e_int) (fun _ _ => rfl)) (e_int))))) (ss_nil)) (ss_cons (s_setC (i := 4) sc__law_window.nd rfl (by first | exact .inl rfl | exact .inr rfl) (e_bin op_sub b_sub (e_bin op_mod b_mod (e_ix rfl (e_v 1) (e_int) (fun _ _ => rfl)) (e_int)) (e_int))) (ss_cut (s_if (t_cmp (op_eqD hr.u64) b_eq (e_bin op_mod b_mod (e_ix rfl (e_v 1) (e_int) (fun _ _ => rfl)) (e_int)) (e_int) (nomark _)) (ss_one (s_setC (i := 4) sc__law_window.nd rfl (by first | exact .inl rfl | exact .inr rfl) (e_bin op_sub b_sub (e_bin op_mod b_mod (e_ix rfl (e_v 1) (e_int) (fun _ _ => rfl)) (e_int)) (e_int)))) (ss_nil)) (ss_one (s_ret (e_tup (a_cons (e_v 4) (a_cons (e_v 3) (a_cons (e_v 2) (a_nil)))))))))))))) w__law_window
theorem ok__law_common (t : Tx K mg) : FnOk P w K mg base CX0 1 t.f__law_common t.d__law_common ["_law_first", "_law_second", "_law_k", "_law_m"] (spC (tb t) c__law_common) :=
  fn_ok (T := tb t) (a := a__law_common) t.F__law_common sc__law_common l__law_common (by decide) (fun cdv A outer s H E hr =>
    ss_cons (s_setC (i := 4) sc__law_common.nd rfl (by first | exact .inl rfl | exact .inr rfl) (e_cb (call_max2 rfl) c_max2 (by rfl) t.n_max (by decide +kernel) (a_cons (e_bin op_addAll b_add (e_ix rfl (e_v 0) (e_int) (fun _ _ => rfl)) (e_bin op_mulAll b_mulAll (e_v 2) (e_ix rfl (e_v 0) (e_int) (fun _ _ => rfl)))) (a_cons (e_bin op_addAll b_add (e_ix rfl (e_v 1) (e_int) (fun _ _ => rfl)) (e_bin op_mulAll b_mulAll (e_v 3) (e_ix rfl (e_v 1) (e_int) (fun _ _ => rfl)))) (a_nil))))) (ss_cons (s_setC (i := 5) sc__law_common.nd rfl (by first | exact .inl rfl | exact .inr rfl) (e_cb (call_min2 rfl) c_min2 (by rfl) t.n_min (by decide +kernel) (a_cons (e_bin op_addAll b_add (e_bin op_addAll b_add (e_ix rfl (e_v 0) (e_int) (fun _ _ => rfl)) (e_bin op_mulAll b_mulAll (e_v 2) (e_ix rfl (e_v 0) (e_int) (fun _ _ => rfl)))) (e_ix rfl (e_v 0) (e_int) (fun _ _ => rfl))) (a_cons (e_bin op_addAll b_add (e_bin op_addAll b_add (e_ix rfl (e_v 1) (e_int) (fun _ _ => rfl)) (e_bin op_mulAll b_mulAll (e_v 3) (e_ix rfl (e_v 1) (e_int) (fun _ _ => rfl)))) (e_ix rfl (e_v 1) (e_int) (fun _ _ => rfl))) (a_nil))))) (ss_one (s_ret (e_cmp op_lt b_lt (e_v 4) (e_v 5) (nomark _)))))) w__law_common
theorem ok__law_partner (t : Tx K mg) : FnOk P w K mg base CX0 2 t.f__law_partner t.d__law_partner ["_law_first", "_law_second", "_law_k"] (spC (tb t) c__law_partner) :=
  fn_ok (T := tb t) (a := a__law_partner) t.F__law_partner sc__law_partner l__law_partner (by decide) (fun cdv A outer s H E hr =>
    ss_cons (s_if (PW.pt (w_or (t_cmp (op_eqD hr.u64) b_eq (e_ix rfl (e_v 0) (e_int) (fun _ _ => rfl)) (e_int) (nomark _)) (w_or1 (t_cmp (op_eqD hr.u64) b_eq (e_ix rfl (e_v 1) (e_int) (fun _ _ => rfl)) (e_int) (nomark _))))) (ss_one (s_ret (e_non))) (ss_nil)) (ss_cons (s_setC (i := 3) sc__law_partner.nd rfl (by first | exact .inl rfl | exact .inr rfl) (e_bin op_addAll b_add (e_ix rfl (e_v 0) (e_int) (fun _ _ => rfl)) (e_bin op_mulAll b_mulAll (e_v 2) (e_ix rfl (e_v 0) (e_int) (fun _ _ => rfl))))) (ss_cons (s_setC (i := 4) sc__law_partner.nd rfl (by first | exact .inl rfl | exact .inr rfl) (e_cb (call_max2 rfl) c_max2 (by rfl) t.n_max (by decide +kernel) (a_cons (e_int) (a_cons (e_bin op_fdiv b_div (e_bin op_sub b_sub (e_bin op_sub b_sub (e_v 3) (e_ix rfl (e_v 1) (e_int) (fun _ _ => rfl))) (e_ix rfl (e_v 1) (e_int) (fun _ _ => rfl))) (e_ix rfl (e_v 1) (e_int) (fun _ _ => rfl))) (a_nil))))) (ss_cons (s_for PassesOwn.never rfl (i_r2 (by rfl) t.n_range (a_cons (e_v 4) (a_cons (e_bin op_addAll b_add (e_v 4) (e_int)) (a_nil)))) (g_name (i := 5) sc__law_partner.nd rfl (by first | exact .inl rfl | exact .inr rfl)) (ss_one (s_if (t_val (e_call (ok__law_common t) (hr.mono (by decide)) (by rfl) t.m__law_common t.F__law_common.kp t.b__law_common (a_cons (e_v 0) (a_cons (e_v 1) (a_cons (e_v 2) (a_cons (e_v 5) (a_nil))))))) (ss_one (s_retV 5)) (ss_nil)))) (ss_one (s_ret (e_non))))))) w__law_partner
theorem ok__law_due (t : Tx K mg) : FnOk P w K mg base CX0 3 t.f__law_due t.d__law_due ["_law_first", "_law_second"] (spC (tb t) c__law_due) :=
  fn_ok (T := tb t) (a := a__law_due) t.F__law_due sc__law_due l__law_due (by decide) (fun cdv A outer s H E hr =>
    ss_cons (s_setC (i := 2) sc__law_due.nd rfl (by first | exact .inl rfl | exact .inr rfl) (e_cb (call_max2 rfl) c_max2 (by rfl) t.n_max (by decide +kernel) (a_cons (e_int) (a_cons (e_bin op_fdiv b_div (e_bin op_sub b_sub (e_ix rfl (e_v 1) (e_int) (fun _ _ => rfl)) (e_ix rfl (e_v 0) (e_int) (fun _ _ => rfl))) (e_ix rfl (e_v 0) (e_int) (fun _ _ => rfl))) (a_nil))))) (ss_cons (s_for PassesOwn.never rfl (i_r1 (by rfl) t.n_range (a_cons (e_bin op_addAll b_add (e_v 2) (e_int)) (a_nil))) (g_name (i := 3) sc__law_due.nd rfl (by first | exact .inl rfl | exact .inr rfl)) (ss_cons (s_setC (i := 4) sc__law_due.nd rfl (by first | exact .inl rfl | exact .inr rfl) (e_call (ok__law_partner t) (hr.mono (by decide)) (by rfl) t.m__law_partner t.F__law_partner.kp t.b__law_partner (a_cons (e_v 0) (a_cons (e_v 1) (a_cons (e_v 3) (a_nil)))))) (ss_one (s_if (t_cmp op_notN1 b_notN (e_v 4) (e_non) (nomark _)) (ss_one (s_ret (e_tup (a_cons (e_v 3) (a_cons (e_v 4) (a_nil)))))) (ss_nil))))) (ss_one (s_ret (e_non))))) w__law_due
theorem ok_law (t : Tx K mg) : FnOk P w K mg base CX0 4 t.f_law t.d_law ["_law_script"] (spC (tb t) c_law) :=
  fn_ok (T := tb t) (a := a_law) t.F_law sc_law l_law (by decide) (fun cdv A outer s H E hr =>
    ss_cons (s_for PassesOwn.never rfl (i_r1 (by rfl) t.n_range (a_cons (e_int) (a_nil))) (g_name (i := 1) sc_law.nd rfl (by first | exact .inl rfl | exact .inr rfl)) (ss_cons (s_setC (i := 2) sc_law.nd rfl (by first | exact .inl rfl | exact .inr rfl) (e_bin op_addAll b_add (e_sl rfl (e_v 0) (o_some (e_bin op_mulAll b_mulAll (e_int) (e_v 1))) (o_some (e_bin op_addAll b_add (e_bin op_mulAll b_mulAll (e_int) (e_v 1)) (e_int)))) (e_lst (a_cons (e_v 1) (a_cons (e_bin op_addAll b_add (e_v 1) (e_int)) (a_nil)))))) (ss_cons (s_setC (i := 3) sc_law.nd rfl (by first | exact .inl rfl | exact .inr rfl) (e_call (ok__law_window t) (hr.mono (by decide)) (by rfl) t.m__law_window t.F__law_window.kp t.b__law_window (a_cons (e_ix rfl (e_v 2) (e_int) (fun _ _ => rfl)) (a_nil)))) (ss_cons (s_setC (i := 4) sc_law.nd rfl (by first | exact .inl rfl | exact .inr rfl) (e_call (ok__law_window t) (hr.mono (by decide)) (by rfl) t.m__law_window t.F__law_window.kp t.b__law_window (a_cons (e_ix rfl (e_v 2) (e_int) (fun _ _ => rfl)) (a_nil)))) (ss_cons (s_setC (i := 5) sc_law.nd rfl (by first | exact .inl rfl | exact .inr rfl) (e_call (ok__law_due t) (hr.mono (by decide)) (by rfl) t.m__law_due t.F__law_due.kp t.b__law_due (a_cons (e_v 3) (a_cons (e_v 4) (a_nil))))) (ss_cons (s_setC (i := 6) sc_law.nd rfl (by first | exact .inl rfl | exact .inr rfl) (e_call (ok_meet t) (hr.mono (by decide)) (by rfl) t.m_meet t.F_meet.kp t.b_meet (a_cons (e_v 3) (a_cons (e_v 4) (a_nil))))) (ss_cons (s_if (PW.pt (w_or (t_not (t_val (e_isi (t := "bool") t.n_isinstance (by rfl) (by rfl) t.n_bool (by decide +kernel) (e_v 6) rfl))) (w_or (t_cmp (op_neD hr.u64) b_ne (e_v 6) (e_cmp op_notN1 b_notN (e_v 5) (e_non) (nomark _)) (nomark _)) (w_or1 (t_cmp (op_neD hr.u64) b_ne (e_call (ok_meet t) (hr.mono (by decide)) (by rfl) t.m_meet t.F_meet.kp t.b_meet (a_cons (e_v 4) (a_cons (e_v 3) (a_nil)))) (e_v 6) (nomark _)))))) (ss_one (s_ret (e_bl))) (ss_nil)) (ss_cons (s_setC (i := 7) sc_law.nd rfl (by first | exact .inl rfl | exact .inr rfl) (e_call (ok_first_meeting t) (hr.mono (by decide)) (by rfl) t.m_first_meeting t.F_first_meeting.kp t.b_first_meeting (a_cons (e_v 3) (a_cons (e_v 4) (a_nil))))) (ss_one (s_if (PW.pt (w_or (t_cmp (op_neD hr.u64) b_ne (e_v 7) (e_v 5) (nomark _)) (w_or1 (PW.pt (w_and (t_cmp op_notN1 b_notN (e_v 7) (e_non) (nomark _)) (w_and1 (t_not (t_val (e_call (ok__law_is_integer t) (hr.mono (by decide)) (by rfl) t.m__law_is_integer t.F__law_is_integer.kp t.b__law_is_integer (a_cons (e_ix rfl (e_v 7) (e_int) (fun _ _ => rfl)) (a_nil))))))))))) (ss_one (s_ret (e_bl))) (ss_nil))))))))))) (ss_one (s_ret (e_bl)))) w_law
end
def spLaw (K : PySem.W.Frag) : Sp := fun vs H Q _ => ∃ (a : Addr) (ns : List Int), vs = [.ref a] ∧ SqL K H a (ns.map V.int) ∧ ns.length ≤ 63 ∧ ∀ H', Q (.bl true) H'
theorem ok_end {P : Program} {w : World} {K : PySem.W.Frag} {mg : Str → Option Value} {base : Heap} (t : Tx K mg) : FnOk P w K mg base CX0 4 t.f_law t.d_law ["_law_script"] (spLaw K) :=
  (ok_law t).imp fun vs H Q E ⟨a, ns, e, hS, hl, q⟩ => by
    subst e
    refine ⟨⟨H, H, []⟩, H, [.cl (.scr ns)], fun w => w = .cl (.bl true), Same.refl _, .cons (.scr hS) .nil, ⟨ns, rfl, hl, rfl⟩, fun w hw v F' H' g r => ?_⟩
    subst hw
    cases r
    exact q H'
theorem all_mk {l : PySem.W.OpenLaw} {w : World} {K : PySem.W.Frag} {h : Heap} {mg : Str → Option Value} {fa f0 f1 f2 f3 f4 f5 f6 f7 f8 : Addr} (X : K.In h) (G : h.Ns mainGlobals mg) (hfa : mg "law" = some (.ref fa))
    {od0 an0 : Option Addr} {sl0 : Array (Option Value)} {oc0 kV0 dc0 pm0 cd0 ct0 : Value}
    (a0 : PySem.W.nsIn K mainGlobals "meet" = some (some (.ref f0))) (l0 : K.lookup f0 = some ⟨oc0, od0, .func (PySem.W.fnOf "meet" "meet" (defArgs s_meet) (defBody s_meet) (defScope s_meet) .none kV0 dc0 pm0 an0 cd0 ct0), sl0⟩) (c0 : PySem.W.codeIn K cd0 "meet" = true) (k0 : PySem.W.keepIn K (.ref f0) = true)
    {od1 an1 : Option Addr} {sl1 : Array (Option Value)} {oc1 kV1 dc1 pm1 cd1 ct1 : Value}
    (a1 : PySem.W.nsIn K mainGlobals "first_meeting" = some (some (.ref f1))) (l1 : K.lookup f1 = some ⟨oc1, od1, .func (PySem.W.fnOf "first_meeting" "first_meeting" (defArgs s_first_meeting) (defBody s_first_meeting) (defScope s_first_meeting) .none kV1 dc1 pm1 an1 cd1 ct1), sl1⟩) (c1 : PySem.W.codeIn K cd1 "first_meeting" = true) (k1 : PySem.W.keepIn K (.ref f1) = true)
    {od2 an2 : Option Addr} {sl2 : Array (Option Value)} {oc2 kV2 dc2 pm2 cd2 ct2 : Value}
    (a2 : PySem.W.nsIn K mainGlobals "_law_is_integer" = some (some (.ref f2))) (l2 : K.lookup f2 = some ⟨oc2, od2, .func (PySem.W.fnOf "_law_is_integer" "_law_is_integer" (defArgs s__law_is_integer) (defBody s__law_is_integer) (defScope s__law_is_integer) .none kV2 dc2 pm2 an2 cd2 ct2), sl2⟩) (c2 : PySem.W.codeIn K cd2 "_law_is_integer" = true) (k2 : PySem.W.keepIn K (.ref f2) = true)
    {od3 an3 : Option Addr} {sl3 : Array (Option Value)} {oc3 kV3 dc3 pm3 cd3 ct3 : Value}
    (a3 : PySem.W.nsIn K mainGlobals "_law_draw" = some (some (.ref f3))) (l3 : K.lookup f3 = some ⟨oc3, od3, .func (PySem.W.fnOf "_law_draw" "_law_draw" (defArgs s__law_draw) (defBody s__law_draw) (defScope s__law_draw) .none kV3 dc3 pm3 an3 cd3 ct3), sl3⟩) (c3 : PySem.W.codeIn K cd3 "_law_draw" = true) (k3 : PySem.W.keepIn K (.ref f3) = true)
    {od4 an4 : Option Addr} {sl4 : Array (Option Value)} {oc4 kV4 dc4 pm4 cd4 ct4 : Value}
    (a4 : PySem.W.nsIn K mainGlobals "_law_window" = some (some (.ref f4))) (l4 : K.lookup f4 = some ⟨oc4, od4, .func (PySem.W.fnOf "_law_window" "_law_window" (defArgs s__law_window) (defBody s__law_window) (defScope s__law_window) .none kV4 dc4 pm4 an4 cd4 ct4), sl4⟩) (c4 : PySem.W.codeIn K cd4 "_law_window" = true) (k4 : PySem.W.keepIn K (.ref f4) = true)
    {od5 an5 : Option Addr} {sl5 : Array (Option Value)} {oc5 kV5 dc5 pm5 cd5 ct5 : Value}
    (a5 : PySem.W.nsIn K mainGlobals "_law_common" = some (some (.ref f5))) (l5 : K.lookup f5 = some ⟨oc5, od5, .func (PySem.W.fnOf "_law_common" "_law_common" (defArgs s__law_common) (defBody s__law_common) (defScope s__law_common) .none kV5 dc5 pm5 an5 cd5 ct5), sl5⟩) (c5 : PySem.W.codeIn K cd5 "_law_common" = true) (k5 : PySem.W.keepIn K (.ref f5) = true)
    {od6 an6 : Option Addr} {sl6 : Array (Option Value)} {oc6 kV6 dc6 pm6 cd6 ct6 : Value}
    (a6 : PySem.W.nsIn K mainGlobals "_law_partner" = some (some (.ref f6))) (l6 : K.lookup f6 = some ⟨oc6, od6, .func (PySem.W.fnOf "_law_partner" "_law_partner" (defArgs s__law_partner) (defBody s__law_partner) (defScope s__law_partner) .none kV6 dc6 pm6 an6 cd6 ct6), sl6⟩) (c6 : PySem.W.codeIn K cd6 "_law_partner" = true) (k6 : PySem.W.keepIn K (.ref f6) = true)
    {od7 an7 : Option Addr} {sl7 : Array (Option Value)} {oc7 kV7 dc7 pm7 cd7 ct7 : Value}
    (a7 : PySem.W.nsIn K mainGlobals "_law_due" = some (some (.ref f7))) (l7 : K.lookup f7 = some ⟨oc7, od7, .func (PySem.W.fnOf "_law_due" "_law_due" (defArgs s__law_due) (defBody s__law_due) (defScope s__law_due) .none kV7 dc7 pm7 an7 cd7 ct7), sl7⟩) (c7 : PySem.W.codeIn K cd7 "_law_due" = true) (k7 : PySem.W.keepIn K (.ref f7) = true)
    {od8 an8 : Option Addr} {sl8 : Array (Option Value)} {oc8 kV8 dc8 pm8 cd8 ct8 : Value}
    (a8 : PySem.W.nsIn K mainGlobals "law" = some (some (.ref f8))) (l8 : K.lookup f8 = some ⟨oc8, od8, .func (PySem.W.fnOf "law" "law" (defArgs s_law) (defBody s_law) (defScope s_law) .none kV8 dc8 pm8 an8 cd8 ct8), sl8⟩) (c8 : PySem.W.codeIn K cd8 "law" = true) (k8 : PySem.W.keepIn K (.ref f8) = true)
    (i_gcd : PySem.W.nsIn K mainGlobals "gcd" = some (some (.builtin "math.gcd")))
    (n_bool : PySem.W.nsIn K mainGlobals "bool" = some none)
    (n_int : PySem.W.nsIn K mainGlobals "int" = some none)
    (n_isinstance : PySem.W.nsIn K mainGlobals "isinstance" = some none)
    (n_max : PySem.W.nsIn K mainGlobals "max" = some none)
    (n_min : PySem.W.nsIn K mainGlobals "min" = some none)
    (n_range : PySem.W.nsIn K mainGlobals "range" = some none) :
    ∃ fd : FuncData, (∀ (s : Shared) (v : Value), BindsTo s fd ⟨[v], []⟩ [("_law_script", v)]) ∧ ∀ base : Heap, K.In base → base.Ns mainGlobals mg → FnOk l.prog w K mg base CX0 4 fa fd ["_law_script"] (spLaw K) := by
  have e := hfa.symm.trans (PySem.W.mg_of X G a8)
  cases e
  let t : Tx K mg := {
    f_meet := f0
    d_meet := _
    F_meet := fun_mk (st := s_meet) l0 c0 k0
    b_meet := (fun_mk (st := s_meet) l0 c0 k0).binds (ps := ["first", "second"]) (fun _ _ _ _ _ _ us hl => match us, hl with | [_, _], _ => rfl)
    m_meet := PySem.W.mg_of X G a0
    f_first_meeting := f1
    d_first_meeting := _
    F_first_meeting := fun_mk (st := s_first_meeting) l1 c1 k1
    b_first_meeting := (fun_mk (st := s_first_meeting) l1 c1 k1).binds (ps := ["first", "second"]) (fun _ _ _ _ _ _ us hl => match us, hl with | [_, _], _ => rfl)
    m_first_meeting := PySem.W.mg_of X G a1
    f__law_is_integer := f2
    d__law_is_integer := _
    F__law_is_integer := fun_mk (st := s__law_is_integer) l2 c2 k2
    b__law_is_integer := (fun_mk (st := s__law_is_integer) l2 c2 k2).binds (ps := ["_law_actual"]) (fun _ _ _ _ _ _ us hl => match us, hl with | [_], _ => rfl)
    m__law_is_integer := PySem.W.mg_of X G a2
    f__law_draw := f3
    d__law_draw := _
    F__law_draw := fun_mk (st := s__law_draw) l3 c3 k3
    b__law_draw := (fun_mk (st := s__law_draw) l3 c3 k3).binds (ps := ["_law_cell", "_law_many", "_law_bound"]) (fun _ _ _ _ _ _ us hl => match us, hl with | [_, _, _], _ => rfl)
    m__law_draw := PySem.W.mg_of X G a3
    f__law_window := f4
    d__law_window := _
    F__law_window := fun_mk (st := s__law_window) l4 c4 k4
    b__law_window := (fun_mk (st := s__law_window) l4 c4 k4).binds (ps := ["_law_cell"]) (fun _ _ _ _ _ _ us hl => match us, hl with | [_], _ => rfl)
    m__law_window := PySem.W.mg_of X G a4
    f__law_common := f5
    d__law_common := _
    F__law_common := fun_mk (st := s__law_common) l5 c5 k5
    b__law_common := (fun_mk (st := s__law_common) l5 c5 k5).binds (ps := ["_law_first", "_law_second", "_law_k", "_law_m"]) (fun _ _ _ _ _ _ us hl => match us, hl with | [_, _, _, _], _ => rfl)
    m__law_common := PySem.W.mg_of X G a5
    f__law_partner := f6
    d__law_partner := _
    F__law_partner := fun_mk (st := s__law_partner) l6 c6 k6
    b__law_partner := (fun_mk (st := s__law_partner) l6 c6 k6).binds (ps := ["_law_first", "_law_second", "_law_k"]) (fun _ _ _ _ _ _ us hl => match us, hl with | [_, _, _], _ => rfl)
    m__law_partner := PySem.W.mg_of X G a6
    f__law_due := f7
    d__law_due := _
    F__law_due := fun_mk (st := s__law_due) l7 c7 k7
    b__law_due := (fun_mk (st := s__law_due) l7 c7 k7).binds (ps := ["_law_first", "_law_second"]) (fun _ _ _ _ _ _ us hl => match us, hl with | [_, _], _ => rfl)
    m__law_due := PySem.W.mg_of X G a7
    f_law := _
    d_law := _
    F_law := fun_mk (st := s_law) l8 c8 k8
    b_law := (fun_mk (st := s_law) l8 c8 k8).binds (ps := ["_law_script"]) (fun _ _ _ _ _ _ us hl => match us, hl with | [_], _ => rfl)
    m_law := PySem.W.mg_of X G a8
    i_gcd := PySem.W.mg_of X G i_gcd
    n_bool := PySem.W.mg_none_of X G n_bool
    n_int := PySem.W.mg_none_of X G n_int
    n_isinstance := PySem.W.mg_none_of X G n_isinstance
    n_max := PySem.W.mg_none_of X G n_max
    n_min := PySem.W.mg_none_of X G n_min
    n_range := PySem.W.mg_none_of X G n_range }
  exact ⟨t.d_law, fun s v => .of_eq rfl, fun base _ _ => ok_end t⟩
end Vl
open PySem PySem.W PyProof.Rows
set_option maxHeartbeats 0 in
theorem PySem.Challenge.cw_metronet_k04_windows_that_meet_holds : PySem.Challenge.rw_metronet_k04_windows_that_meet.Holds := by
  w_on; o_law; k_head; (case hw => w_witness2)
  k_fill
  refine L2.walk_of (l := PySem.Challenge.rw_metronet_k04_windows_that_meet) (n := 63) (k := 4) (x := "_law_script") (CX := fun _ => L2.CX0) (sp := fun w => Vl.spLaw _) rfl (by decide) rfl ⟨rfl, by decide, by decide⟩ (fun w h Y => PySem.W.kIn_of Y) ?F (fun _ _ a ns hl _ hS => ⟨a, ns, rfl, hS, hl, fun _ => rfl⟩) (fun _ _ _ _ _ h => h)
  case F =>
    intro w mg fa h KX G hmg
    refine' Vl.all_mk KX G hmg ?a0 ?l0 ?c0 ?k0 ?a1 ?l1 ?c1 ?k1 ?a2 ?l2 ?c2 ?k2 ?a3 ?l3 ?c3 ?k3 ?a4 ?l4 ?c4 ?k4 ?a5 ?l5 ?c5 ?k5 ?a6 ?l6 ?c6 ?k6 ?a7 ?l7 ?c7 ?k7 ?a8 ?l8 ?c8 ?k8 ?i_gcd ?n_bool ?n_int ?n_isinstance ?n_max ?n_min ?n_range
    (case a0 => k_is)
    (case l0 => k_is)
    (case c0 => k_is)
    (case k0 => k_is)
    (case a1 => k_is)
    (case l1 => k_is)
    (case c1 => k_is)
    (case k1 => k_is)
    (case a2 => k_is)
    (case l2 => k_is)
    (case c2 => k_is)
    (case k2 => k_is)
    (case a3 => k_is)
    (case l3 => k_is)
    (case c3 => k_is)
    (case k3 => k_is)
    (case a4 => k_is)
    (case l4 => k_is)
    (case c4 => k_is)
    (case k4 => k_is)
    (case a5 => k_is)
    (case l5 => k_is)
    (case c5 => k_is)
    (case k5 => k_is)
    (case a6 => k_is)
    (case l6 => k_is)
    (case c6 => k_is)
    (case k6 => k_is)
    (case a7 => k_is)
    (case l7 => k_is)
    (case c7 => k_is)
    (case k7 => k_is)
    (case a8 => k_is)
    (case l8 => k_is)
    (case c8 => k_is)
    (case k8 => k_is)
    (case i_gcd => k_is)
    (case n_bool => k_is)
    (case n_int => k_is)
    (case n_isinstance => k_is)
    (case n_max => k_is)
    (case n_min => k_is)
    (case n_range => k_is)
