import PyProof.Rows.All
import Wide.All
import OpenK.AllK
import Wide.FinOn
import HandS.ForMost
import HandS.ForExc
import HandS.Wide
import HandS.IsInst
import HandS.CallSlots
import HandS.TryMany
import HandS.Lambda
import HandS.SuiteRaise
import HandS.ExcInit
import HandS.ExcInitHot
import KE.KExcSuper
import HandS.ExcSuper
import HandS.TupAny
import HandS.TupMul
import HandS.Deep
import HandS.Star
import HandS.Style
import KE.DataMinMax
import KE.KTupSum
import HandS.TupSets
import HandS.ExcField
import KE.GoesMore
import KE.GoesEnum
import HandS.Iter
import HandS.Zip
import HandS.More
import HandS.Small
import HandS.Ends
import HandS.EndOwn
import KE.KNestM
import PyProof.ExcBaseAll.ValueError
import KE.SortData
import PySem.Challenge.RW_servedever_k30_delays_and_frames_over_an
set_option Elab.async false
set_option linter.all false
set_option maxRecDepth 100000
set_option maxHeartbeats 2000000
/-! # DI: values, the small store, what stands for what -/
namespace DI
open PySem PySem.Spec L2

/-- a value: tuples and lists that nobody changes by value; what is changed by its number in the store -/
inductive PV where
  | non | bl (b : Bool) | int (i : Int) | str (s : Str)
  | tup (xs : List PV) | lst (xs : List PV)
  | ref (n : Nat) | fn (f : Nat) | ty (n : String)
  | scr (ns : List Int)
  deriving Inhabited

/-- an object that may change -/
inductive SObj where
  | lst (xs : List PV)
  | ins (c : Nat) (fs : List (Option PV))
  /-- a dict whose keys are numbers and texts -/
  | dct (kvs : List (L2.Key × PV))
abbrev Store := List (Option SObj)
/-- an exception; hot: it may bear another one as its context -/
structure Exc where
  cls : Nat
  fs : List PV
  hot : Bool
/-- wishes: of an exception that bears none, of any -/
structure WX where
  n : L2.WX
  c : L2.WX
def WX.at (W : WX) : Bool → L2.WX
  | false => W.n
  | true => W.c
def WX.two (W : L2.WX) : WX := ⟨W, W⟩
theorem WX.two_at {W : L2.WX} {b : Bool} : (WX.two W).at b = W := by cases b <;> rfl
structure Takes (X : Cx) (W : WX) : Prop where
  n : L2N.Takes X W.n
  c : L2.Takes X W.c
theorem sky_zc {B : Heap} {l : List Env} {a : Addr} {Z Z' : Obj → Prop} {L : Addr} {h : Heap} (z : ∀ o, Z o → Z' o) (x : Sky B l a Z L h) : Sky B l a Z' L h := by
  rcases x with ⟨h1, h2, h3, oe, vs, h4, h5, h6⟩ | h1 | h1
  · exact .inl ⟨h1, h2, h3, oe, vs, h4, z _ h5, h6⟩
  · exact .inr (.inl ⟨h1.1, h1.2.1, h1.2.2.1, L2H.tracedZ_imp z h1.2.2.2⟩)
  · exact .inr (.inr ⟨h1.1, h1.2.1, h1.2.2.1, L2H.tracedZ_imp z h1.2.2.2⟩)
theorem takesN {X : Cx} {W : L2.WX} (t : L2.Takes X W) : L2N.Takes X W := fun u s' ⟨a, B, sI, pins, σ, H, cls, d, e, I, nb, up, sky, na, os, ag, w⟩ =>
  t u s' ⟨a, B, sI, pins, σ, H, cls, d, e, I, nb, up, sky_zc (fun _ z => z.zc) sky, na, os, ag, w⟩
theorem Takes.two {X : Cx} {W : L2.WX} (t : L2.Takes X W) : Takes X (.two W) := ⟨takesN t, t⟩
inductive Res (α : Type) where
  | ok (a : α) (M : Store)
  | exc (x : Exc) (M : Store)
  | bad
def Res.bind {α β : Type} (r : Res α) (k : α → Store → Res β) : Res β :=
  match r with
  | .ok a M => k a M
  | .exc x M => .exc x M
  | .bad => .bad
abbrev Sl := List (Option PV)
inductive SRes where
  | nx (sp : Sl) (M : Store)
  | ret (p : PV) (M : Store)
  | brk (sp : Sl) (M : Store)
  | cnt (sp : Sl) (M : Store)
  | exc (x : Exc) (sp : Sl) (M : Store)
  | bad

/-- what is known of the module: the defs' names by number, the classes' names and fields -/
structure Gd where
  K : PySem.W.Frag
  mg : Str → Option Value
  fnm : Nat → Option Str
  cnm : Nat → Option (Str × List Str)
  sa : Addr
  sw : Bool
  P : Program
  lam : Option (Addr × Addr × Str × List (Str × NameKind))
  mtd : Nat → Option (Nat × Str) := fun _ => none
/-- the tables of code objects that may grow -/
def Gd.tbs (G : Gd) : List (Addr × Str) := match G.lam with
  | none => []
  | some (_, P, q, _) => [(P, q)]

/-! ### a value of ours and one of the layer -/
def WrL (K : PySem.W.Frag) (a : Addr) (xs : List V) : Prop :=
  ∃ (o : Obj) (its : Array Value) (n : Nat), K.lookup a = some o ∧ o.cls = .type "list" ∧ o.dict = none ∧ o.data = .seq its n ∧ its.size ≤ sizeLine ∧ Vals xs its.toList
def WrT (K : PySem.W.Frag) (a : Addr) (xs : List V) : Prop :=
  ∃ (o : Obj) (its : Array Value) (n : Nat), K.lookup a = some o ∧ o.cls = .type "tuple" ∧ o.data = .seq its n ∧ its.size ≤ sizeLine ∧ Vals xs its.toList
def FxL (K : PySem.W.Frag) (O : Addr → Prop) (H : Hp) (a : Addr) (xs : List V) : Prop := H a = some (.lst xs) ∧ ¬ O a
def FxS (sw : Bool) (K : PySem.W.Frag) (O : Addr → Prop) (H : Hp) (a : Addr) (xs : List V) : Prop := (sw = true ∧ WrL K a xs) ∨ (sw = false ∧ Rd H a (.lst xs) ∧ ¬ O a)
def FxT (K : PySem.W.Frag) (O : Addr → Prop) (H : Hp) (a : Addr) (xs : List V) : Prop := (Rd H a (.tup xs) ∧ ¬ O a) ∨ WrT K a xs
theorem FxL.sq {K : PySem.W.Frag} {O : Addr → Prop} {H : Hp} {a : Addr} {xs : List V} (h : FxL K O H a xs) : SqL K H a xs := .inl (.inl h.1)
theorem FxS.sq {sw : Bool} {K : PySem.W.Frag} {O : Addr → Prop} {H : Hp} {a : Addr} {xs : List V} (h : FxS sw K O H a xs) : SqL K H a xs := h.elim (fun z => .inr z.2) fun z => .inl z.2.1
theorem FxT.sq {K : PySem.W.Frag} {O : Addr → Prop} {H : Hp} {a : Addr} {xs : List V} (h : FxT K O H a xs) : SqT K H a xs := h.elim (fun z => .inl z.1) .inr

mutual
inductive Rp (G : Gd) (ι : List Addr) (H : Hp) (O : Addr → Prop) : PV → V → Prop
  | non : Rp G ι H O .non .non
  | bl (b : Bool) : Rp G ι H O (.bl b) (.bl b)
  | int (i : Int) : Rp G ι H O (.int i) (.int i)
  | str (s : Str) : Rp G ι H O (.str s) (.str s)
  | tup {a : Addr} {vs : List V} {ps : List PV} : FxT G.K O H a vs → ps.length ≤ sizeLine → Rps G ι H O ps vs → Rp G ι H O (.tup ps) (.ref a)
  | lst {a : Addr} {vs : List V} {ps : List PV} : FxL G.K O H a vs → ps.length ≤ sizeLine → Rps G ι H O ps vs → Rp G ι H O (.lst ps) (.ref a)
  | ref {n : Nat} {a : Addr} : ι[n]? = some a → Rp G ι H O (.ref n) (.ref a)
  | fn {f : Nat} {x : Str} {a : Addr} : G.fnm f = some x → G.mg x = some (.ref a) → Rp G ι H O (.fn f) (.ref a)
  | ty (n : String) : Rp G ι H O (.ty n) (.ty n)
  | scr {a : Addr} {ns : List Int} : a = G.sa → FxS G.sw G.K O H a (ns.map V.int) → Rp G ι H O (.scr ns) (.ref a)
inductive Rps (G : Gd) (ι : List Addr) (H : Hp) (O : Addr → Prop) : List PV → List V → Prop
  | nil : Rps G ι H O [] []
  | cons {p : PV} {v : V} {ps : List PV} {vs : List V} : Rp G ι H O p v → Rps G ι H O ps vs → Rps G ι H O (p :: ps) (v :: vs)
end

/-- the places of the store's objects -/
def Own (M : Store) (ι : List Addr) (a : Addr) : Prop := ∃ (n : Nat) (o : SObj), M[n]? = some (some o) ∧ ι[n]? = some a
def ObRep (G : Gd) (ι : List Addr) (H : Hp) (O : Addr → Prop) : SObj → Addr → Prop
  | .lst ps, a => ∃ vs, H a = some (.lst vs) ∧ ps.length ≤ sizeLine ∧ Rps G ι H O ps vs
  | .ins c fs, a => ∃ nm fn C dx fvs, G.cnm c = some (nm, fn) ∧ G.mg nm = some (.ref C) ∧ H a = some (.ins C dx fvs) ∧ (∀ f ∈ fvs.map (·.1), f ∈ fn) ∧ fvs.length ≤ (fs.filter fun o => o.isSome).length ∧ (fs.length = fn.length ∧ fn.Nodup ∧ fn.length ≤ 900 ∧ ∀ (i : Nat) (f : Str), fn[i]? = some f → fs[i]? = some none → fvs.lookup f = none) ∧
      ∀ (i : Nat) (f : Str) (p : PV), fn[i]? = some f → fs[i]? = some (some p) → ∃ v, fvs.lookup f = some v ∧ Rp G ι H O p v
  | .dct kvs, a => ∃ vs, H a = some (.dK ((kvs.map (·.1)).zip vs)) ∧ kvs.length ≤ sizeLine ∧ Rps G ι H O (kvs.map (·.2)) vs
structure MRel (G : Gd) (M : Store) (ι : List Addr) (H : Hp) : Prop where
  sa : G.sw = false → ∃ o, H G.sa = some o ∧ ∀ ps, o ≠ .tbl ps
  len : ι.length = M.length
  inj : ∀ (n m : Nat) (o o' : SObj) (a : Addr), M[n]? = some (some o) → M[m]? = some (some o') → ι[n]? = some a → ι[m]? = some a → n = m
  obj : ∀ (n : Nat) (o : SObj), M[n]? = some (some o) → ∃ a, ι[n]? = some a ∧ ObRep G ι H (Own M ι) o a
  tb : LamX.Tabs G.tbs H
/-- what is kept from one state to a later one -/
structure Ext (M : Store) (ι : List Addr) (H : Hp) (M' : Store) (ι' : List Addr) (H' : Hp) : Prop where
  pre : ∀ (n : Nat) (a : Addr), ι[n]? = some a → ι'[n]? = some a
  keep : ∀ (a : Addr) (o : HO), H a = some o → (∀ ps, o ≠ .tbl ps) → ¬ Own M ι a → H' a = some o ∧ ¬ Own M' ι' a
theorem Ext.refl {M : Store} {ι : List Addr} {H : Hp} : Ext M ι H M ι H := ⟨fun _ _ h => h, fun _ _ h _ n => ⟨h, n⟩⟩
theorem Ext.trans {M M1 M2 : Store} {ι ι1 ι2 : List Addr} {H H1 H2 : Hp} (a : Ext M ι H M1 ι1 H1) (b : Ext M1 ι1 H1 M2 ι2 H2) : Ext M ι H M2 ι2 H2 :=
  ⟨fun n x h => b.pre n x (a.pre n x h), fun x o h t n => let ⟨h1, n1⟩ := a.keep x o h t n; b.keep x o h1 t n1⟩
theorem Ext.rd {M M1 : Store} {ι ι1 : List Addr} {H H1 : Hp} (e : Ext M ι H M1 ι1 H1) {a : Addr} {u : HO} (h : Rd H a u ∧ ¬ Own M ι a) (t : ∀ ps, u ≠ .tbl ps) : Rd H1 a u ∧ ¬ Own M1 ι1 a := by
  obtain ⟨h, n⟩ := h
  rcases h with h | ⟨o, h⟩
  · exact ⟨.inl (e.keep a _ h t n).1, (e.keep a _ h t n).2⟩
  · exact ⟨.inr ⟨o, (e.keep a _ h nofun n).1⟩, (e.keep a _ h nofun n).2⟩
theorem Ext.fxL {M M1 : Store} {ι ι1 : List Addr} {H H1 : Hp} {K : PySem.W.Frag} (e : Ext M ι H M1 ι1 H1) {a : Addr} {xs : List V} (h : FxL K (Own M ι) H a xs) : FxL K (Own M1 ι1) H1 a xs := e.keep a _ h.1 nofun h.2
theorem Ext.fxS {M M1 : Store} {ι ι1 : List Addr} {H H1 : Hp} {sw : Bool} {K : PySem.W.Frag} (e : Ext M ι H M1 ι1 H1) {a : Addr} {xs : List V} (h : FxS sw K (Own M ι) H a xs) : FxS sw K (Own M1 ι1) H1 a xs := h.elim .inl fun z => .inr ⟨z.1, e.rd z.2 nofun⟩
theorem Ext.fxT {M M1 : Store} {ι ι1 : List Addr} {H H1 : Hp} {K : PySem.W.Frag} (e : Ext M ι H M1 ι1 H1) {a : Addr} {xs : List V} (h : FxT K (Own M ι) H a xs) : FxT K (Own M1 ι1) H1 a xs := h.elim (fun z => .inl (e.rd z nofun)) .inr
mutual
theorem Rp.ext {G : Gd} {M M1 : Store} {ι ι1 : List Addr} {H H1 : Hp} (e : Ext M ι H M1 ι1 H1) : ∀ (p : PV) (v : V), Rp G ι H (Own M ι) p v → Rp G ι1 H1 (Own M1 ι1) p v
  | .non, _, h => by cases h; exact .non
  | .bl b, _, h => by cases h; exact .bl b
  | .int i, _, h => by cases h; exact .int i
  | .str s, _, h => by cases h; exact .str s
  | .tup ps, _, h => by
    cases h with
    | tup h1 h2 h3 => exact .tup (e.fxT h1) h2 (Rps.ext e ps _ h3)
  | .lst ps, _, h => by
    cases h with
    | lst h1 h2 h3 => exact .lst (e.fxL h1) h2 (Rps.ext e ps _ h3)
  | .ref n, _, h => by
    cases h with
    | ref h1 => exact .ref (e.pre _ _ h1)
  | .fn f, _, h => by
    cases h with
    | fn h1 h2 => exact .fn h1 h2
  | .ty n, _, h => by cases h; exact .ty n
  | .scr ns, _, h => by
    cases h with
    | scr h0 h1 => exact .scr h0 (e.fxS h1)
theorem Rps.ext {G : Gd} {M M1 : Store} {ι ι1 : List Addr} {H H1 : Hp} (e : Ext M ι H M1 ι1 H1) : ∀ (ps : List PV) (vs : List V), Rps G ι H (Own M ι) ps vs → Rps G ι1 H1 (Own M1 ι1) ps vs
  | [], _, h => by cases h; exact .nil
  | p :: ps, _, h => by
    cases h with
    | cons h1 h2 => exact .cons (Rp.ext e p _ h1) (Rps.ext e ps _ h2)
end
section
variable {G : Gd} {ι : List Addr} {H : Hp} {O : Addr → Prop}
theorem Rps.length : ∀ {ps : List PV} {vs : List V}, Rps G ι H O ps vs → ps.length = vs.length
  | _, _, .nil => rfl
  | _, _, .cons _ t => congrArg (· + 1) t.length
theorem Rps.get : ∀ {ps : List PV} {vs : List V} {i : Nat} {p : PV}, Rps G ι H O ps vs → ps[i]? = some p → ∃ v, vs[i]? = some v ∧ Rp G ι H O p v
  | _, _, _, _, .nil, e => by simp at e
  | _, _, 0, _, .cons r _, e => by simp at e; subst e; exact ⟨_, rfl, r⟩
  | _, _, i + 1, p, .cons _ t, e => by
    obtain ⟨v, h1, h2⟩ := Rps.get (i := i) (p := p) t (by simpa using e)
    exact ⟨v, by simpa using h1, h2⟩
theorem Rps.getV : ∀ {ps : List PV} {vs : List V} {i : Nat} {v : V}, Rps G ι H O ps vs → vs[i]? = some v → ∃ p, ps[i]? = some p ∧ Rp G ι H O p v
  | _, _, _, _, .nil, e => by simp at e
  | _, _, 0, _, .cons r _, e => by simp at e; subst e; exact ⟨_, rfl, r⟩
  | _, _, i + 1, v, .cons _ t, e => by
    obtain ⟨p, h1, h2⟩ := Rps.getV (i := i) (v := v) t (by simpa using e)
    exact ⟨p, by simpa using h1, h2⟩
theorem Rps.append : ∀ {ps qs : List PV} {vs ws : List V}, Rps G ι H O ps vs → Rps G ι H O qs ws → Rps G ι H O (ps ++ qs) (vs ++ ws)
  | _, _, _, _, .nil, s => s
  | _, _, _, _, .cons r t, s => .cons r (t.append s)
theorem Rps.take : ∀ {ps : List PV} {vs : List V} (n : Nat), Rps G ι H O ps vs → Rps G ι H O (ps.take n) (vs.take n)
  | _, _, 0, _ => .nil
  | _, _, _ + 1, .nil => .nil
  | _, _, n + 1, .cons r t => .cons r (t.take n)
theorem Rps.drop : ∀ {ps : List PV} {vs : List V} (n : Nat), Rps G ι H O ps vs → Rps G ι H O (ps.drop n) (vs.drop n)
  | _, _, 0, r => r
  | _, _, _ + 1, .nil => .nil
  | _, _, n + 1, .cons _ t => t.drop n
theorem Rps.set {p : PV} {v : V} (r : Rp G ι H O p v) : ∀ {ps : List PV} {vs : List V} (i : Nat), Rps G ι H O ps vs → Rps G ι H O (ps.set i p) (vs.set i v)
  | _, _, _, .nil => .nil
  | _, _, 0, .cons _ t => .cons r t
  | _, _, i + 1, .cons q t => .cons q (t.set r i)
theorem Rps.replicate {p : PV} {v : V} (r : Rp G ι H O p v) : ∀ n : Nat, Rps G ι H O (List.replicate n p) (List.replicate n v)
  | 0 => .nil
  | n + 1 => .cons r (Rps.replicate r n)
end

/-- the slots -/
structure SRep (G : Gd) (M : Store) (ι : List Addr) (H : Hp) (sp : Sl) (σ : St) : Prop where
  len : sp.length = σ.length
  at_ : ∀ (i : Nat) (p : PV), sp[i]? = some (some p) → ∃ v, σ[i]? = some (some v) ∧ Rp G ι H (Own M ι) p v
theorem SRep.ext {G : Gd} {M M1 : Store} {ι ι1 : List Addr} {H H1 : Hp} {sp : Sl} {σ : St} (s : SRep G M ι H sp σ) (e : Ext M ι H M1 ι1 H1) : SRep G M1 ι1 H1 sp σ :=
  ⟨s.len, fun i p h => let ⟨v, h1, h2⟩ := s.at_ i p h; ⟨v, h1, h2.ext e⟩⟩
theorem SRep.set {G : Gd} {M : Store} {ι : List Addr} {H : Hp} {sp : Sl} {σ : St} (s : SRep G M ι H sp σ) {p : PV} {v : V} (r : Rp G ι H (Own M ι) p v) (i : Nat) : SRep G M ι H (sp.set i (some p)) (σ.set i (some v)) := by
  refine ⟨by simp [s.len], fun j q h => ?_⟩
  by_cases hj : i = j
  · subst hj
    by_cases hi : i < sp.length
    · rw [List.getElem?_set_self hi] at h
      cases h
      exact ⟨v, List.getElem?_set_self (by rw [← s.len]; exact hi), r⟩
    · rw [List.getElem?_eq_none (by simpa using hi)] at h
      cases h
  · rw [List.getElem?_set_ne hj] at h
    obtain ⟨w, h1, h2⟩ := s.at_ j q h
    exact ⟨w, by rw [List.getElem?_set_ne hj]; exact h1, h2⟩
/-- an exception -/
def XRep (G : Gd) (ι : List Addr) (H : Hp) (O : Addr → Prop) (x : Exc) (cv : Value) (d : Option Addr) : Prop :=
  ∃ nm fn C, G.cnm x.cls = some (nm, fn) ∧ G.mg nm = some (.ref C) ∧ cv = .ref C ∧
    ∀ (i : Nat) (p : PV), x.fs[i]? = some p → ∃ f dd fvs v, fn[i]? = some f ∧ d = some dd ∧ H dd = some (.xd fvs) ∧ fvs.lookup f = some v ∧ Rp G ι H O p v

/-! ### results -/
section
variable (G : Gd) (W : WX) (σ : St) (M : Store) (ι : List Addr) (H : Hp)
def PostE (Q : VK) : Res PV → Prop
  | .ok p M' => ∀ ι' H' v, MRel G M' ι' H' → Ext M ι H M' ι' H' → Rp G ι' H' (Own M' ι') p v → Q v H'
  | .exc x M' => ∀ ι' H' cv d, MRel G M' ι' H' → Ext M ι H M' ι' H' → XRep G ι' H' (Own M' ι') x cv d → W.at x.hot cv d σ H'
  | .bad => False
def PostA (Q : List V → Hp → Prop) : Res (List PV) → Prop
  | .ok ps M' => ∀ ι' H' vs, MRel G M' ι' H' → Ext M ι H M' ι' H' → Rps G ι' H' (Own M' ι') ps vs → Q vs H'
  | .exc x M' => ∀ ι' H' cv d, MRel G M' ι' H' → Ext M ι H M' ι' H' → XRep G ι' H' (Own M' ι') x cv d → W.at x.hot cv d σ H'
  | .bad => False
def PostT (Q : Bool → Hp → Prop) : Res Bool → Prop
  | .ok b M' => ∀ ι' H', MRel G M' ι' H' → Ext M ι H M' ι' H' → Q b H'
  | .exc x M' => ∀ ι' H' cv d, MRel G M' ι' H' → Ext M ι H M' ι' H' → XRep G ι' H' (Own M' ι') x cv d → W.at x.hot cv d σ H'
  | .bad => False
end
def PostS (G : Gd) (W : WX) (D : Ends) (M : Store) (ι : List Addr) (H : Hp) : SRes → Prop
  | .nx sp M' => ∀ ι' H' σ', MRel G M' ι' H' → Ext M ι H M' ι' H' → SRep G M' ι' H' sp σ' → D.nx σ' H'
  | .brk sp M' => ∀ ι' H' σ', MRel G M' ι' H' → Ext M ι H M' ι' H' → SRep G M' ι' H' sp σ' → D.bk σ' H'
  | .cnt sp M' => ∀ ι' H' σ', MRel G M' ι' H' → Ext M ι H M' ι' H' → SRep G M' ι' H' sp σ' → D.ct σ' H'
  | .ret p M' => ∀ ι' H' v, MRel G M' ι' H' → Ext M ι H M' ι' H' → Rp G ι' H' (Own M' ι') p v → D.rt v H'
  | .exc x sp M' => ∀ ι' H' σ' cv d, MRel G M' ι' H' → Ext M ι H M' ι' H' → SRep G M' ι' H' sp σ' → XRep G ι' H' (Own M' ι') x cv d → W.at x.hot cv d σ' H'
  | .bad => False
abbrev Ev (α : Type) := Sl → Store → Res α
abbrev Ex := Sl → Store → SRes
def LE (G : Gd) (W : WX) (c : Ev PV) : TE := fun σ H Q => ∃ M ι sp, MRel G M ι H ∧ SRep G M ι H sp σ ∧ PostE G W σ M ι H Q (c sp M)
def LT (G : Gd) (W : WX) (c : Ev Bool) : TT := fun σ H Q => ∃ M ι sp, MRel G M ι H ∧ SRep G M ι H sp σ ∧ PostT G W σ M ι H Q (c sp M)
def LA (G : Gd) (W : WX) (c : Ev (List PV)) : TA := fun σ H Q => ∃ M ι sp, MRel G M ι H ∧ SRep G M ι H sp σ ∧ PostA G W σ M ι H Q (c sp M)
def LS (G : Gd) (W : WX) (c : Ex) : TS := fun D σ H => ∃ M ι sp, MRel G M ι H ∧ SRep G M ι H sp σ ∧ PostS G W D M ι H (c sp M)

/-! ### another reading -/
theorem _root_.L2.PE.w {X : Cx} {e : PySem.Expr} {t t' : TE} (h : PE X e t) (hw : ∀ σ H Q, t' σ H Q → t σ H Q) : PE X e t' := ⟨fun pins s σ H Q I q => h.run pins s σ H Q I (hw σ H Q q)⟩
theorem _root_.L2.PT.w {X : Cx} {e : PySem.Expr} {t t' : TT} (h : PT X e t) (hw : ∀ σ H Q, t' σ H Q → t σ H Q) : PT X e t' := ⟨fun pins s σ H Q I q => h.run pins s σ H Q I (hw σ H Q q)⟩
theorem _root_.L2.PW.w {X : Cx} {e : PySem.Expr} {t t' : TT} (h : PW X e t) (hw : ∀ σ H Q, t' σ H Q → t σ H Q) : PW X e t' := ⟨fun wh pins s σ H Q I q => h.run wh pins s σ H Q I (hw σ H Q q)⟩
theorem _root_.L2.PA.w {X : Cx} {es : List PySem.Expr} {t t' : TA} (h : PA X es t) (hw : ∀ σ H Q, t' σ H Q → t σ H Q) : PA X es t' := ⟨fun pos pins s σ H Q I q => h.run pos pins s σ H Q I (hw σ H Q q)⟩
theorem _root_.L2.PS.w {X : Cx} {st : PySem.Stmt} {t t' : TS} (h : PS X st t) (hw : ∀ D σ H, t' D σ H → t D σ H) : PS X st t' := ⟨fun pins s σ H D I q => h.run pins s σ H D I (hw D σ H q)⟩
theorem _root_.L2.PSs.w {X : Cx} {st : List PySem.Stmt} {t t' : TS} (h : PSs X st t) (hw : ∀ D σ H, t' D σ H → t D σ H) : PSs X st t' := ⟨fun pins s σ H D I q => h.run pins s σ H D I (hw D σ H q)⟩

section
variable {G : Gd} {W : WX} {σ : St} {M M1 : Store} {ι ι1 : List Addr} {H H1 : Hp}
theorem PostE.from {Q : VK} {r : Res PV} (h : PostE G W σ M ι H Q r) (e : Ext M ι H M1 ι1 H1) : PostE G W σ M1 ι1 H1 Q r := by
  cases r with
  | ok p M' => exact fun ι' H' v a b c => h ι' H' v a (e.trans b) c
  | exc x M' => exact fun ι' H' cv d a b c => h ι' H' cv d a (e.trans b) c
  | bad => exact h
theorem PostA.from {Q : List V → Hp → Prop} {r : Res (List PV)} (h : PostA G W σ M ι H Q r) (e : Ext M ι H M1 ι1 H1) : PostA G W σ M1 ι1 H1 Q r := by
  cases r with
  | ok p M' => exact fun ι' H' v a b c => h ι' H' v a (e.trans b) c
  | exc x M' => exact fun ι' H' cv d a b c => h ι' H' cv d a (e.trans b) c
  | bad => exact h
theorem PostT.from {Q : Bool → Hp → Prop} {r : Res Bool} (h : PostT G W σ M ι H Q r) (e : Ext M ι H M1 ι1 H1) : PostT G W σ M1 ι1 H1 Q r := by
  cases r with
  | ok p M' => exact fun ι' H' a b => h ι' H' a (e.trans b)
  | exc x M' => exact fun ι' H' cv d a b c => h ι' H' cv d a (e.trans b) c
  | bad => exact h
theorem PostS.from {D : Ends} {r : SRes} (h : PostS G W D M ι H r) (e : Ext M ι H M1 ι1 H1) : PostS G W D M1 ι1 H1 r := by
  cases r with
  | nx sp M' => exact fun ι' H' σ' a b c => h ι' H' σ' a (e.trans b) c
  | brk sp M' => exact fun ι' H' σ' a b c => h ι' H' σ' a (e.trans b) c
  | cnt sp M' => exact fun ι' H' σ' a b c => h ι' H' σ' a (e.trans b) c
  | ret p M' => exact fun ι' H' v a b c => h ι' H' v a (e.trans b) c
  | exc x sp M' => exact fun ι' H' σ' cv d a b c f => h ι' H' σ' cv d a (e.trans b) c f
  | bad => exact h
/-- an expression, then more -/
theorem PostE.bind {Q Q1 : VK} {r : Res PV} {k : PV → Store → Res PV} (h : PostE G W σ M ι H Q (r.bind k))
    (hq : ∀ p M1 ι1 H1 v, MRel G M1 ι1 H1 → Ext M ι H M1 ι1 H1 → Rp G ι1 H1 (Own M1 ι1) p v → PostE G W σ M1 ι1 H1 Q (k p M1) → Q1 v H1) : PostE G W σ M ι H Q1 r := by
  cases r with
  | ok p M1 => exact fun ι1 H1 v a b c => hq p M1 ι1 H1 v a b c (PostE.from (r := k p M1) h b)
  | exc x M1 => exact h
  | bad => exact h
theorem PostE.bindA {Q : List V → Hp → Prop} {Q1 : VK} {r : Res PV} {k : PV → Store → Res (List PV)} (h : PostA G W σ M ι H Q (r.bind k))
    (hq : ∀ p M1 ι1 H1 v, MRel G M1 ι1 H1 → Ext M ι H M1 ι1 H1 → Rp G ι1 H1 (Own M1 ι1) p v → PostA G W σ M1 ι1 H1 Q (k p M1) → Q1 v H1) : PostE G W σ M ι H Q1 r := by
  cases r with
  | ok p M1 => exact fun ι1 H1 v a b c => hq p M1 ι1 H1 v a b c (PostA.from (r := k p M1) h b)
  | exc x M1 => exact h
  | bad => exact h
theorem PostE.bindT {Q : Bool → Hp → Prop} {Q1 : VK} {r : Res PV} {k : PV → Store → Res Bool} (h : PostT G W σ M ι H Q (r.bind k))
    (hq : ∀ p M1 ι1 H1 v, MRel G M1 ι1 H1 → Ext M ι H M1 ι1 H1 → Rp G ι1 H1 (Own M1 ι1) p v → PostT G W σ M1 ι1 H1 Q (k p M1) → Q1 v H1) : PostE G W σ M ι H Q1 r := by
  cases r with
  | ok p M1 => exact fun ι1 H1 v a b c => hq p M1 ι1 H1 v a b c (PostT.from (r := k p M1) h b)
  | exc x M1 => exact h
  | bad => exact h
theorem PostA.bind {Q : VK} {Q1 : List V → Hp → Prop} {r : Res (List PV)} {k : List PV → Store → Res PV} (h : PostE G W σ M ι H Q (r.bind k))
    (hq : ∀ ps M1 ι1 H1 vs, MRel G M1 ι1 H1 → Ext M ι H M1 ι1 H1 → Rps G ι1 H1 (Own M1 ι1) ps vs → PostE G W σ M1 ι1 H1 Q (k ps M1) → Q1 vs H1) : PostA G W σ M ι H Q1 r := by
  cases r with
  | ok p M1 => exact fun ι1 H1 v a b c => hq p M1 ι1 H1 v a b c (PostE.from (r := k p M1) h b)
  | exc x M1 => exact h
  | bad => exact h
theorem PostA.bindA {Q : List V → Hp → Prop} {Q1 : List V → Hp → Prop} {r : Res (List PV)} {k : List PV → Store → Res (List PV)} (h : PostA G W σ M ι H Q (r.bind k))
    (hq : ∀ ps M1 ι1 H1 vs, MRel G M1 ι1 H1 → Ext M ι H M1 ι1 H1 → Rps G ι1 H1 (Own M1 ι1) ps vs → PostA G W σ M1 ι1 H1 Q (k ps M1) → Q1 vs H1) : PostA G W σ M ι H Q1 r := by
  cases r with
  | ok p M1 => exact fun ι1 H1 v a b c => hq p M1 ι1 H1 v a b c (PostA.from (r := k p M1) h b)
  | exc x M1 => exact h
  | bad => exact h
theorem PostT.bind {Q : VK} {Q1 : Bool → Hp → Prop} {r : Res Bool} {k : Bool → Store → Res PV} (h : PostE G W σ M ι H Q (r.bind k))
    (hq : ∀ b M1 ι1 H1, MRel G M1 ι1 H1 → Ext M ι H M1 ι1 H1 → PostE G W σ M1 ι1 H1 Q (k b M1) → Q1 b H1) : PostT G W σ M ι H Q1 r := by
  cases r with
  | ok p M1 => exact fun ι1 H1 a b => hq p M1 ι1 H1 a b (PostE.from (r := k p M1) h b)
  | exc x M1 => exact h
  | bad => exact h
theorem PostT.bindT {Q : Bool → Hp → Prop} {Q1 : Bool → Hp → Prop} {r : Res Bool} {k : Bool → Store → Res Bool} (h : PostT G W σ M ι H Q (r.bind k))
    (hq : ∀ b M1 ι1 H1, MRel G M1 ι1 H1 → Ext M ι H M1 ι1 H1 → PostT G W σ M1 ι1 H1 Q (k b M1) → Q1 b H1) : PostT G W σ M ι H Q1 r := by
  cases r with
  | ok p M1 => exact fun ι1 H1 a b => hq p M1 ι1 H1 a b (PostT.from (r := k p M1) h b)
  | exc x M1 => exact h
  | bad => exact h
end
end DI
set_option maxHeartbeats 4000000
/-! # DI: an own exception's __init__ that begins with super().__init__(..) -/
namespace DI
open PySem PySem.Spec PyProof.Rows L2
/-- a method's frame: its closure holds the class -/
abbrev envI (qual : Str) (scope : Scope) (L f : Addr) (cd : Value) (cc : Addr) : Env := PySem.W.ksEnv qual scope L f cd cc
def cxI (CX : CXT) (P : Program) (w : World) (K : PySem.W.Frag) (mg : Str → Option Value) (base : Heap) (N : List Str) (qual : Str) (scope : Scope) (f : Addr) (cd : Value) (cc : Addr) (A : Around) (outer : List Env) (s : Shared) (H : Hp) (E : XK) : Cx where
  prog := P
  w := w
  K := K
  mg := mg
  base := base
  A := A.deeper (envI qual scope s.heap.objs.size f cd cc)
  N := N
  s_0 := s
  H_0 := H
  env := envI qual scope s.heap.objs.size f cd cc
  outer := outer
  stack := envI qual scope s.heap.objs.size f cd cc :: outer
  ex := []
  calm := true
  fn := fun _ => false
  pn := []
  xe := fun e s' => wpAny (model P w) (A.deeper (envI qual scope s.heap.objs.size f cd cc)) (leaving (envI qual scope s.heap.objs.size f cd cc) e) (fun _ s'' => CX outer H s E e s'') (fun e' s'' => CX outer H s E e' s'') s'
/-- a method's words -/
structure IScope (N P : List Str) (sc : Scope) : Prop where
  kind : sc.kind = .function
  co : sc.isCoroutine = false
  gen : sc.isGenerator = false
  nd : N.Nodup
  pre : N = P
  par : ∀ x ∈ P, sc.names.lookup x = some .local
  nocell : ∀ y ∈ sc.names, y.2 ≠ .cell
  free : ∀ y, sc.names.lookup y = some .free → y = ("__class__" : Str)
  sup : sc.names.lookup ("super" : Str) = some .globalImplicit
  cls : sc.names.lookup ("__class__" : Str) = some .free
theorem inv_startI {CX : CXT} {P : Program} {w : World} {K : PySem.W.Frag} {mg : Str → Option Value} {base : Heap} {N ps : List Str} {qual : Str} {scope : Scope} {f cc : Addr} {cd : Value} {A : Around} {outer : List Env} {s : Shared} {H : Hp} {E : XK} {us : List Value} {vs : List V} {h1 : Heap} {tk : Nat} {D : Value}
    {ccl : Value} {ccd : Option Addr} {csl : Array (Option Value)} (S : IScope N ps scope) (hd : A.handled = none) (e0 : Env0 P w K mg base A outer s H) (hl : vs.length = ps.length) (r : Vals vs us)
    (hcell : K.lookup cc = some ⟨ccl, ccd, .cell (some D), csl⟩)
    (hns : h1.Ns s.heap.objs.size fun x => (ps.zip us).reverse.lookup x) (hk : ∀ b o, s.heap.get? b = some o → h1.get? b = some o) :
    Inv (cxI CX P w K mg base N qual scope f cd cc A outer s H E) [] (L2.start N vs) H { s with heap := h1, toks := tk } := by
  have noA : ∀ b : Addr, b ∉ (cxI CX P w K mg base N qual scope f cd cc A outer s H E).ex := fun b z => absurd (show b ∈ ([] : List Addr) from z) (by simp)
  have hb := e0.mod.kin _ _ hcell
  have hcs := e0.bs _ _ hb
  have look : ∀ {y : Str} {c : Addr}, (cxI CX P w K mg base N qual scope f cd cc A outer s H E).env.cells.lookup y = some c → y = ("__class__" : Str) ∧ c = cc := fun {y c} h => by
    have h : ([(("__class__" : Str), cc)] : List (Str × Addr)).lookup y = some c := h
    by_cases e : y = ("__class__" : Str)
    · subst e
      simp [List.lookup] at h
      exact ⟨rfl, h.symm⟩
    · have e2 : (y == ("__class__" : Str)) = false := by simpa using e
      simp [List.lookup, e2] at h
  have cellOk : h1.IsCell cc (some D) := ⟨_, hk _ _ hcs.1, rfl⟩
  subst_vars
  have hpre := S.pre
  subst hpre
  refine ⟨⟨e0.mod, S.kind, rfl, rfl, Nat.le_refl _, fun y z c a b => (look a).1.trans (look b).1.symm, fun y hy => ?_, fun y c a _ => (by cases a), fun _ => hd, Around.frames_deeper e0.frames, .inr ⟨rfl, rfl⟩, fun b z => absurd z (noA b), e0.bs, e0.bsz, fun b _ _ => noA b, fun b z => absurd z (noA b), e0.funs, e0.frf⟩,
    rfl, e0.bare, Un.kept hk, ⟨_, hns, fun i y v a b c => ?_⟩, fun y c a => ⟨some D, (by have z := (look a).2; subst z; exact cellOk)⟩, e0.hok.fresh (Nat.le_refl _), fun y c a => (by rw [(look a).2]; exact hcs.2), fun p hp => absurd (show p ∈ ([] : List (Addr × Obj)) from hp) (by simp), e0.hok.kept hk, ?_⟩
  · have hy : scope.names.lookup y = some .cell ∨ scope.names.lookup y = some .free := hy
    rcases hy with hy | hy
    · exact absurd rfl (S.nocell _ (PySem.mem_of_lookup hy))
    · rw [S.free y hy]
      exact ⟨cc, rfl⟩
  · have hi : i < vs.length := by
      unfold L2.start at b
      by_cases hi : i < vs.length
      · exact hi
      · rw [List.getElem?_append_right (by simpa using hi)] at b
        rw [List.getElem?_replicate] at b
        split at b <;> cases b
    have ha : vs[i]? = some v := by
      unfold L2.start at b
      rw [List.getElem?_append_left (by simpa using hi), List.getElem?_map] at b
      cases e : vs[i]? with
      | none => rw [e] at b; cases b
      | some q => rw [e] at b; cases b; rfl
    obtain ⟨u, hu, rv⟩ := r.get ha
    have hp : N[i]? = some y := a
    refine ⟨u, rv, .inl ⟨S.par y (List.mem_of_getElem? hp), ?_⟩⟩
    have hz : (N.zip us)[i]? = some (y, u) := by
      rw [List.getElem?_zip_eq_some]
      exact ⟨hp, hu⟩
    have hnd : ((N.zip us).map (·.1)).Nodup := by
      have hlen : us.length = N.length := by rw [← Paired.length r, hl]
      rw [List.map_fst_zip (by omega)]
      exact S.nd
    have key : ∀ {l : List (Str × Value)} {y : Str} {u : Value}, (l.map (·.1)).Nodup → (y, u) ∈ l → l.reverse.lookup y = some u := by
      intro l
      induction l with
      | nil => intro y u _ h; cases h
      | cons p l ih =>
        intro y u nd h
        rw [List.reverse_cons, List.lookup_append]
        rw [List.map_cons, List.nodup_cons] at nd
        rcases List.mem_cons.mp h with e | h
        · subst e
          have hn : l.reverse.lookup y = none := by
            rw [List.lookup_eq_none_iff]
            intro q hq
            have hm : q.1 ∈ l.map (·.1) := List.mem_map_of_mem (List.mem_reverse.mp hq)
            have : q.1 ≠ y := fun z => nd.1 (by rw [← z]; exact hm)
            simpa using Ne.symm this
          rw [hn]
          simp [List.lookup]
        · rw [ih nd.2 h]
          rfl
    exact key hnd (List.mem_of_getElem? hz)
  · unfold L2.start
    show _ = N.length
    rw [List.length_append, List.length_map, List.length_replicate]
    omega
end DI
set_option maxHeartbeats 4000000
namespace DI
open PySem PySem.Spec PyProof.Rows L2
section
variable {prog : Program} {w : World} {A : Around} {E : Value → Shared → Prop} {h : Heap} {g : Array GenState} {d : Drawn} {t : Nat} {os : OsState}
variable {nm q : Str} {C N : Addr} {bs bm : List Value} {hdct : Bool} {sn : List Str} {sub : List Value} {ab : Bool} {col : Option Bool} {dd : Option Addr} {k0 k1 k2 k3 k5 : Option Value}
/-- ValueError.__init__ bound to e, called -/
theorem call_mwV {u e t0 : Addr} {rest : List Value} {Q : Value → Shared → Prop} (hbm : PySem.HandSPX.refsVE bm = true)
    (hC : h.get? C = some (excClassObj nm q C N bs bm hdct sn sub ab col dd k0 k1 k2 k3 k5 "ValueError.__new__")) (he : h.get? e = some (PySem.HandSPX.excO C t0)) (hu : h.get? u = some (PySem.W.kxs_mw "ValueError.__init__" e)) (hrest : rest.length ≤ sizeLine)
    (hq : ∀ h' t1, (∀ b o, b ≠ e → h.get? b = some o → h'.get? b = some o) → h'.get? e = some (PySem.HandSPX.excO C t1) → Q .none ⟨h', g, d, t, os⟩) :
    wpAny (model prog w) A (call (.ref u) rest) Q E ⟨h, g, d, t, os⟩ := by
  refine wpAny_call (codeAny_of_tree ?_)
  show wpAny _ A.in1 (callAny (.ref u) ⟨rest, []⟩) _ _ _
  simp only [callAny]
  refine wpAny_bind (wpAny_load hu ?_)
  simp only [PySem.W.kxs_mw, show (Value.type "method-wrapper" == Value.type "method" || Value.type "method-wrapper" == Value.type "builtin_function_or_method" || Value.type "method-wrapper" == Value.type "method-wrapper") = true by decide, if_true]
  refine PySem.W.KFB.if_so (by decide) ?_
  refine wpAny_bind (PySem.ESX.check_bound F.excBase_ValueError hC he rfl ?_)
  refine wpAny_bind (wpAny_pure (wpAny_pure ?_))
  refine ⟨Code.quiet_builtin _ (by decide +kernel), codeAny_builtin F.excBase_ValueError.initEntry ?_⟩
  rw [Around.under_plainId F.excBase_ValueError.init.plain _]
  wp_walk
  refine hq _ h.objs.size (fun b o hb ho => ?_) ?_
  · rw [Heap.get?_update_other _ _ (Ne.symm hb)]
    exact Heap.get?_push_of_some _ ho
  · rw [Heap.get?_update_self _ (Heap.get?_push_of_some _ he) rfl]
    rfl
end
/-- what the written part tells of an own exception's __init__ -/
structure InF (P : Program) (K : PySem.W.Frag) (mg : Str → Option Value) (C fI cda cc : Addr) (fd : FuncData) (sf : Str) : Prop where
  fn : ∃ oc od osl, K.lookup fI = some ⟨oc, od, .func fd, osl⟩
  par : ∃ ar, (fd.params.posonlyargs ++ fd.params.args).head? = some ar ∧ ar.arg = sf
  code : ∃ ccl cdd vs ccs file tf, K.lookup cda = some ⟨ccl, cdd, .fields vs, ccs⟩ ∧ vs[2]? = some (.str file tf) ∧ ((P.main.file : Str) == file) = true
  cell : ∃ cl cld csl, K.lookup cc = some ⟨cl, cld, .cell (some (.ref C)), csl⟩
  cls : OexC K C
  sub : PySem.W.mroIn K C (.ref C) = some true
  sup : PySem.W.ks_superIn K C C "__init__" = some (some (.builtin "ValueError.__init__"))
  val : PySem.W.subIn K (.ref C) (.type "ValueError") = some true
  mgs : mg "super" = none
  top : (P.main.scope.names.lookup ("super" : Str)).isSome = false
  tp : PySem.W.nsIn K cStatics "thirdparty.any" = some none
section
variable {CX : CXT} {P : Program} {w : World} {K : PySem.W.Frag} {mg : Str → Option Value} {base : Heap} {N ps : List Str} {qual : Str} {scope : Scope} {fI cda cc C : Addr} {A : Around} {outer : List Env} {s0 : Shared} {H0 : Hp} {E : XK} {fd : FuncData} {sf : Str}
/-- super().__init__(..) as a statement -/
theorem sup_stmt {pins : List (Addr × Obj)} {σ : L2.St} {H : Hp} {s : Shared} {a : Addr} {e : Expr} {es : List Expr} {ta : TA} {q0 q1 q2 q5 q6 : Pos} {body : List Stmt} {R : Hp → Prop}
    (S : IScope N ps scope) (T : InF P K mg C fI cda cc fd sf) (hN : N[0]? = some sf) (hP : sf ∈ ps)
    (I : Inv (cxI CX P w K mg base N qual scope fI (.ref cda) cc A outer s0 H0 E) pins σ H s) (h0 : σ[0]? = some (some (V.ref a))) (hH : H a = some (exo a C none))
    (ha : PA (cxI CX P w K mg base N qual scope fI (.ref cda) cc A outer s0 H0 E) (e :: es) ta) (h : ta σ H fun vs H1 => vs.length ≤ 1000 ∧ H1 a = some (exo a C none) ∧ R H1)
    (hs : swapsWith (.Call (.Attribute (.Call (.Name "super" q0) [] [] q1) "__init__" q2) (e :: es) [] q5) none q6.line (cxI CX P w K mg base N qual scope fI (.ref cda) cc A outer s0 H0 E).env = pure false := by rfl)
    (hc : eval (.Call (.Attribute (.Call (.Name "super" q0) [] [] q1) "__init__" q2) (e :: es) [] q5) (cxI CX P w K mg base N qual scope fI (.ref cda) cc A outer s0 H0 E).env = (do
      let ov ← attributeBase (.Call (.Name "super" q0) [] [] q1) "__init__" (cxI CX P w K mg base N qual scope fI (.ref cda) cc A outer s0 H0 E).env (eval (.Call (.Name "super" q0) [] [] q1) (cxI CX P w K mg base N qual scope fI (.ref cda) cc A outer s0 H0 E).env)
      standAt q2.atName
      let (f, first) ← holding [ov] (getMethod ov "__init__" (pure false))
      callWith q5 f first (backTo q5 (starEach (e :: es) (cxI CX P w K mg base N qual scope fI (.ref cda) cc A outer s0 H0 E).env)) []) := by rfl)
    (hse : starEach (e :: es) (cxI CX P w K mg base N qual scope fI (.ref cda) cc A outer s0 H0 E).env = (false, eval e (cxI CX P w K mg base N qual scope fI (.ref cda) cc A outer s0 H0 E).env) :: starEach es (cxI CX P w K mg base N qual scope fI (.ref cda) cc A outer s0 H0 E).env := by rfl)
    (hpl : (backTo q5 (starEach es (cxI CX P w K mg base N qual scope fI (.ref cda) cc A outer s0 H0 E).env)).any (·.1) = false := by rfl) :
    _root_.PySem.wpAt (model P w) (cxI CX P w K mg base N qual scope fI (.ref cda) cc A outer s0 H0 E).A (.func body (cxI CX P w K mg base N qual scope fI (.ref cda) cc A outer s0 H0 E).env)
      (exec (.Expr (.Call (.Attribute (.Call (.Name "super" q0) [] [] q1) "__init__" q2) (e :: es) [] q5) q6) (cxI CX P w K mg base N qual scope fI (.ref cda) cc A outer s0 H0 E).env)
      (fun fl s' => fl = .next ∧ ∃ H', Inv (cxI CX P w K mg base N qual scope fI (.ref cda) cc A outer s0 H0 E) pins σ H' s' ∧ R H') (cxI CX P w K mg base N qual scope fI (.ref cda) cc A outer s0 H0 E).xe s := by
  obtain ⟨oc, od, osl, hfn⟩ := T.fn
  obtain ⟨ar, hpar, har⟩ := T.par
  obtain ⟨ccl, cdd, vs0, ccs, file, tf, hcode, hvs, hfile⟩ := T.code
  obtain ⟨cl, cld, csl, hcell⟩ := T.cell
  obtain ⟨nm, q, N', bs, bm, sn, sub, ab, col, dd, k0, k1, k2, k3, k5, hC, hbm⟩ := T.cls.cls
  have hcl : PySem.W.clsIn K C = some { name := nm, bases := bs, mro := .ref C :: bm, ns := N', qualname := q, hasDict := true, slotNames := sn, subclasses := sub, abstract := ab, collection := col, hasDel := false } := by unfold PySem.W.clsIn; rw [hC] <;> rfl
  obtain ⟨t0, he⟩ := exo_at I.hok hH
  obtain ⟨m, hns, hl⟩ := I.loc
  obtain ⟨uself, rself, lself⟩ := hl 0 sf (V.ref a) hN h0 (.inl (S.par sf hP))
  obtain rfl : uself = Value.ref a := rself
  have hkl : (cxI CX P w K mg base N qual scope fI (.ref cda) cc A outer s0 H0 E).env.kindOf sf = some .local := S.par sf hP
  have hv : m sf = some (.ref a) := by
    rcases lself with ⟨_, z⟩ | ⟨z, _⟩
    · exact z
    · rcases z with z | z <;> rw [hkl] at z <;> cases z
  refine PySem.ks_wpAt_Expr_any ?_ I.quiet hs
  refine PySem.ks_wpAt_MethodCall ?_ hc
  refine PySem.ks_wpAt_super_base (env := (cxI CX P w K mg base N qual scope fI (.ref cda) cc A outer s0 H0 E).env) S.sup S.cls (by decide) rfl (I.kIn _ _ hfn) rfl hpar rfl (I.kIn _ _ hcode) rfl hvs hfile T.top ?_
  obtain ⟨mb, hb1, hb2⟩ := I.mod.blt
  have hnc : ∀ c, (({ cls := .ref C, dict := none, data := .fields #[.ref t0, .none, .none, .none, .bool false, .none] } : Obj)).data ≠ .cls c := fun c z => by cases z
  rw [har]
  refine PySem.W.ks_loadName_global I.ok.kind S.sup (Calls.loadGlobal_builtin (by rw [I.ok.glob]; exact I.mod.glob.keeps I.bk) T.mgs (by rw [I.ok.blt]; exact hb1.keeps I.bk) ((hb2 "super" (by decide)).trans PyProof.Rows.Boot.«super») ⟨rfl, ?_⟩)
  refine wpAny_loadName_free I.ok.kind S.cls rfl ⟨_, I.kIn _ _ hcell, rfl⟩ ?_
  refine wpAny_loadName_local I.ok.kind hkl hns hv ?_
  refine PySem.ks_wpAny_isType_cls (I.kIn _ _ hC) rfl ⟨rfl, ?_⟩
  obtain ⟨hp, g, d, tk, os⟩ := s
  refine PySem.ks_wpAny_call_super (I.kIn _ _ hC) rfl he rfl hnc (PySem.W.looks_mroIn I.kIn T.sub) fun h1 e1 k1 => ?_
  have I1 : L2.Inv (cxI CX P w K mg base N qual scope fI (.ref cda) cc A outer s0 H0 E) pins σ H ⟨h1, g, d, tk, os⟩ := I.kept (t' := tk) k1
  have he1 := k1 _ _ he
  have J1 : PySem.W.InstAt h1 a { cls := .ref C, dict := none, data := .fields #[.ref t0, .none, .none, .none, .bool false, .none] } C none := ⟨he1, rfl, rfl, trivial⟩
  refine PySem.W.kxs_getMethod PySem.W.kxs_ValueError e1 (PySem.W.looks_opaque I1.kIn T.tp) (l₀ := .ref C :: bm) (l := ((Value.ref C :: bm).dropWhile (· != .ref C)).drop 1) (fun A Q E s k q => wpAny_bind ((PySem.W.looks_clsIn I1.kIn hcl) A _ E s k (wpAny_pure q))) rfl I1.kIn
    (by have z := T.sup; unfold PySem.W.ks_superIn at z; rw [hcl] at z; exact z) (J1.type.andThen (PySem.W.looks_subIn I1.kIn T.val)) (PySem.W.ks_ne I1.kIn J1 hcl) (by decide) ?_
  have I2 : L2.Inv (cxI CX P w K mg base N qual scope fI (.ref cda) cc A outer s0 H0 E) pins σ H ⟨h1.push (PySem.W.kxs_mw "ValueError.__init__" a), g, d, tk + 1, os⟩ := I1.kept (t' := tk + 1) (fun b o e => Heap.get?_push_of_some _ e)
  have I3 : L2.Inv (cxI CX P w K mg base N qual scope fI (.ref cda) cc A outer s0 H0 E) ((h1.objs.size, PySem.W.kxs_mw "ValueError.__init__" a) :: pins) σ H ⟨h1.push (PySem.W.kxs_mw "ValueError.__init__" a), g, d, tk + 1, os⟩ := I2.pins_of fun p hp => by
    rcases List.mem_cons.mp hp with rfl | hp
    · exact ⟨Heap.get?_push_at rfl rfl, I1.hok.fresh (Nat.le_refl _), Nat.ne_of_gt I1.lt, I1.nofs (Nat.le_refl _), fun v z => by cases z⟩
    · exact I2.pin p (List.mem_append_right _ hp)
  show wpAny _ _ (callWith q5 (.ref h1.objs.size) [] (backTo q5 (starEach (e :: es) _)) []) _ _ _
  have hrun := ha.run q5 _ _ σ H _ I3 h
  rw [hse] at hrun ⊢
  refine PySem.W.kxs_callWith (i := "ValueError.__init__") (x := a) (by show (false || (backTo q5 (starEach es _)).any (·.1)) = false; rw [hpl]; rfl) (Calls.evalArgs_plain (thn hrun fun us s3 hh => ?_))
  obtain ⟨vs, H1, I4, r1, hlen, ea, hR⟩ := hh
  have hu := (I4.pin (h1.objs.size, PySem.W.kxs_mw "ValueError.__init__" a) (List.mem_append_right _ List.mem_cons_self)).1
  refine ⟨hu, ?_⟩
  obtain ⟨t1, he4⟩ := exo_at I4.hok ea
  obtain ⟨h3, g3, d3, tk3, os3⟩ := s3
  have hus : us.length ≤ sizeLine := by
    rw [← Paired.length r1, sizeLine_eq]
    omega
  refine call_mwV hbm (I4.kIn _ _ hC) he4 hu hus fun h' t2 k hx => ?_
  have J := I4.write (t' := tk3) (x := a) (e := a) (o := exo a C none) (by rw [ea]; exact True.intro) (.inl rfl) k ⟨_, hx⟩ (exo_ok hx)
  have eu : upd H1 a (exo a C none) = H1 := by
    funext b
    by_cases hb : b = a
    · rw [hb, upd_same, ea]
    · rw [upd_ne hb]
  rw [eu] at J
  exact ⟨rfl, H1, J.pins_of fun p hp => J.pin p (List.mem_append_right _ (List.mem_cons_of_mem _ hp)), hR⟩
end
end DI
set_option maxHeartbeats 4000000
namespace DI
open PySem PySem.Spec PyProof.Rows L2
section
variable {CX : CXT} {P : Program} {w : World} {K : PySem.W.Frag} {mg : Str → Option Value} {base : Heap} {ps : List Str} {name qual : Str} {params : Arguments} {scope : Scope} {dV kV doc pm ct : Value} {an : Option Addr} {fI cda cc C : Addr} {k : Nat} {sf : Str} {sp : Sp}
/-- THE RULE for such an __init__: the rest's reading is chosen at the entry -/
theorem init_ok {e : Expr} {es : List Expr} {rest : List Stmt} {q0 q1 q2 q5 q6 : Pos}
    (S : IScope ps ps scope) (T : InF P K mg C fI cda cc (PySem.W.ksFn name qual params (.Expr (.Call (.Attribute (.Call (.Name "super" q0) [] [] q1) "__init__" q2) (e :: es) [] q5) q6 :: rest) scope dV kV doc pm an (.ref cda) ct cc) sf) (hN : ps[0]? = some sf)
    (hcd : PySem.W.codeIn K (.ref cda) qual = true) (len : ∀ vs H Q E, sp vs H Q E → vs.length = ps.length)
    (hbody : ∀ (A : Around) (outer : List Env) (s : Shared) (H : Hp) (vs : List V) (Q : VK) (E : XK), sp vs H Q E →
      ∃ a ta t, vs[0]? = some (V.ref a) ∧ H a = some (exo a C none) ∧ PA (cxI CX P w K mg base ps qual scope fI (.ref cda) cc A outer s H E) (e :: es) ta ∧ PSs (cxI CX P w K mg base ps qual scope fI (.ref cda) cc A outer s H E) rest t ∧
        ta (L2.start ps vs) H (fun ws H1 => ws.length ≤ 1000 ∧ H1 a = some (exo a C none) ∧ t { nx := fun _ H' => Q .non H', rt := Q } (L2.start ps vs) H1))
    (hs : ∀ (A : Around) (outer : List Env) (s : Shared) (H : Hp) (E : XK), swapsWith (.Call (.Attribute (.Call (.Name "super" q0) [] [] q1) "__init__" q2) (e :: es) [] q5) none q6.line (cxI CX P w K mg base ps qual scope fI (.ref cda) cc A outer s H E).env = pure false := by exact fun _ _ _ _ _ => rfl)
    (hc : ∀ (A : Around) (outer : List Env) (s : Shared) (H : Hp) (E : XK), eval (.Call (.Attribute (.Call (.Name "super" q0) [] [] q1) "__init__" q2) (e :: es) [] q5) (cxI CX P w K mg base ps qual scope fI (.ref cda) cc A outer s H E).env = (do
      let ov ← attributeBase (.Call (.Name "super" q0) [] [] q1) "__init__" (cxI CX P w K mg base ps qual scope fI (.ref cda) cc A outer s H E).env (eval (.Call (.Name "super" q0) [] [] q1) (cxI CX P w K mg base ps qual scope fI (.ref cda) cc A outer s H E).env)
      standAt q2.atName
      let (f, first) ← holding [ov] (getMethod ov "__init__" (pure false))
      callWith q5 f first (backTo q5 (starEach (e :: es) (cxI CX P w K mg base ps qual scope fI (.ref cda) cc A outer s H E).env)) []) := by exact fun _ _ _ _ _ => rfl)
    (hse : ∀ (A : Around) (outer : List Env) (s : Shared) (H : Hp) (E : XK), starEach (e :: es) (cxI CX P w K mg base ps qual scope fI (.ref cda) cc A outer s H E).env = (false, eval e (cxI CX P w K mg base ps qual scope fI (.ref cda) cc A outer s H E).env) :: starEach es (cxI CX P w K mg base ps qual scope fI (.ref cda) cc A outer s H E).env := by exact fun _ _ _ _ _ => rfl)
    (hpl : ∀ (A : Around) (outer : List Env) (s : Shared) (H : Hp) (E : XK), (backTo q5 (starEach es (cxI CX P w K mg base ps qual scope fI (.ref cda) cc A outer s H E).env)).any (·.1) = false := by exact fun _ _ _ _ _ => rfl) :
    FnOk P w K mg base CX (k + 1) fI (PySem.W.ksFn name qual params (.Expr (.Call (.Attribute (.Call (.Name "super" q0) [] [] q1) "__init__" q2) (e :: es) [] q5) q6 :: rest) scope dV kV doc pm an (.ref cda) ct cc) ps sp := by
  refine ⟨len, fun A outer s H args us vs Q E hr e0 hb r hsp => ?_⟩
  obtain ⟨oc, od, osl, lk⟩ := T.fn
  obtain ⟨ccl, ccd, csl, hcell⟩ := T.cell
  have KX : K.In s.heap := e0.mod.kin.keeps fun b o e => (e0.bs b o e).1
  have lim : s.heap.NoLimit := e0.mod.nolimit.keeps fun b o e => (e0.bs b o e).1
  refine PySem.ks_codeAny_call_defAt (binds := ps.zip us) hr.depth (KX _ _ lk) rfl lim (PySem.W.codeRec_of KX hcd) rfl hb S.nocell (fun x hx => S.par x.1 (List.of_mem_zip (show (x.1, x.2) ∈ ps.zip us from hx)).1) (fun h1 hns hk => ?_) S.co S.gen S.kind
  have I : L2.Inv (cxI CX P w K mg base ps qual scope fI (.ref cda) cc A outer s H E) [] (L2.start ps vs) H { s with heap := h1, toks := s.toks + (ps.zip us).length } :=
    inv_startI S hr.hd e0 (len _ _ _ _ hsp) r hcell hns hk
  obtain ⟨a, ta, t, h0, hH, hta, htr, hq⟩ := hbody A outer s H vs Q E hsp
  have h0' : (L2.start ps vs)[0]? = some (some (V.ref a)) := by
    unfold L2.start
    cases vs with
    | nil => cases h0
    | cons v vs =>
      cases h0
      rfl
  have hP : sf ∈ ps := List.mem_of_getElem? hN
  refine PySem.ks_wpAt_execs_cons (PySem.ks_wpAt_mono (sup_stmt (R := fun H1 => t { nx := fun _ H' => Q .non H', rt := Q } (L2.start ps vs) H1) S T hN hP I h0' hH hta hq (hs _ _ _ _ _) (hc _ _ _ _ _) (hse _ _ _ _ _) (hpl _ _ _ _ _)) (fun fl s' hh => ?_) fun _ _ z => z)
  obtain ⟨rfl, H1, I1, hR⟩ := hh
  refine wpAt_of_wpAny (wpAny_mono (htr.run [] s' _ H1 _ I1 hR) (fun fl s2 hs2 => ?_) fun e s2 z => z)
  have fin : ∀ {σ' : L2.St} {H' : Hp} {v : V} {u : Value}, L2.Inv (cxI CX P w K mg base ps qual scope fI (.ref cda) cc A outer s H E) [] σ' H' s2 → L2.RelV v u → Q v H' → L2.CE outer P w H s Q u s2 :=
    fun {σ' H' v u} J rv q => ⟨v, H', J.os, J.bare, J.base, J.hok, rv, q⟩
  cases fl with
  | ret u =>
    obtain ⟨v, σ', H', J, rv, q⟩ := hs2
    exact fin J rv q
  | next =>
    obtain ⟨σ', H', J, q⟩ := hs2
    exact fin (v := V.non) (u := Value.none) J rfl q
  | brk =>
    obtain ⟨_, _, _, q⟩ := hs2
    exact False.elim q
  | cont =>
    obtain ⟨_, _, _, q⟩ := hs2
    exact False.elim q
end
end DI
set_option maxHeartbeats 4000000
/-! # several except clauses, with and without a name -/
namespace DI
open PySem PySem.Spec PyProof.Rows L2
abbrev Clause := List Value × Option Nat × (Addr → Value → Option Addr → TS)
/-- the ends of a suite whose clause bears the name of slot i -/
def endsOf (o : Option Nat) (D : Ends) : Ends := match o with
  | none => D
  | some i => { nx := fun σ H => D.nx (σ.set i none) H, rt := D.rt, bk := fun σ H => D.bk (σ.set i none) H, ct := fun σ H => D.ct (σ.set i none) H }
def slotsOf (o : Option Nat) (a : Addr) (σ : L2.St) : L2.St := match o with
  | none => σ
  | some i => σ.set i (some (V.ref a))
/-- whether one of a clause's classes takes it -/
def exmC (K : PySem.W.Frag) (cls : Value) : List Value → Option Bool
  | [c] => PySem.W.exmOne K cls c
  | cs => PySem.W.exmAny K cls cs
/-- what the clauses wish -/
def wAny (K : PySem.W.Frag) (Wout : L2.WX) (D : Ends) : List Clause → L2.WX
  | [] => Wout
  | q :: r => fun cls d σ H => ∃ b, exmC K cls q.1 = some b ∧ (b = true → ∀ a, H a = none → q.2.2 a cls d (endsOf q.2.1 D) (slotsOf q.2.1 a σ) H) ∧ (b = false → wAny K Wout D r cls d σ H)
/-- the suites are read -/
def SuOk (X : Cx) (suite : List Stmt) (ts : Addr → Value → Option Addr → TS) : Prop :=
  ∀ (a : Addr) (oe : Obj) (cls : Value) (d : Option Addr) (pn : List (Addr × Obj)), Zc cls d oe → (∃ vs, oe.data = .fields vs) → PSs (X.suite a ((a, oe) :: pn)) suite (ts a cls d)
inductive HdsA (X : Cx) : List ExceptHandler → List Clause → Prop
  | nil : HdsA X [] []
  | bare {x : Str} {c : Value} {ts : Addr → Value → Option Addr → TS} {b₀ : Stmt} {b : List Stmt} {p p' : Pos} {hds : List ExceptHandler} {l : List Clause} : Names X x c → SuOk X (b₀ :: b) ts → HdsA X hds l →
      HdsA X (.ExceptHandler (some (.Name x p)) none (b₀ :: b) p' :: hds) (([c], none, ts) :: l)
  | tup {x y : Str} {c e : Value} {ts : Addr → Value → Option Addr → TS} {b₀ : Stmt} {b : List Stmt} {p q r p' : Pos} {k : Nat} {hds : List ExceptHandler} {l : List Clause} : Names X x c → Names X y e → SuOk X (b₀ :: b) ts → HdsA X hds l →
      HdsA X (.ExceptHandler (some (.Tuple [.Name x p, .Name y q] k r)) none (b₀ :: b) p' :: hds) (([c, e], none, ts) :: l)
  | named {x n : Str} {i : Nat} {c : Value} {ts : Addr → Value → Option Addr → TS} {b₀ : Stmt} {b : List Stmt} {p p' : Pos} {hds : List ExceptHandler} {l : List Clause} : Names X x c → X.N[i]? = some n → X.env.kindOf n = some .local → SuOk X (b₀ :: b) ts → HdsA X hds l →
      HdsA X (.ExceptHandler (some (.Name x p)) (some n) (b₀ :: b) p' :: hds) (([c], some i, ts) :: l)
section
variable {X : Cx} {body : List Stmt} {h₀ : ExceptHandler} {hds : List ExceptHandler} {l : List Clause} {pos : Pos} {tb : L2.WX → TS} {Wout : L2.WX}
/-- the class of a clause is looked up while the exception is handled -/
theorem names_ev {Y : Cx} {pins : List (Addr × Obj)} {σ : L2.St} {H : Hp} {s : Shared} {x : Str} {c : Value} {p : Pos} {Q : Value → Shared → Prop} {Ee : Value → Shared → Prop} (hc : Names Y x c) (S : L2.Inv Y pins σ H s) (q : Q c s) :
    wpAny (model Y.prog Y.w) Y.A (eval (.Name x p) Y.env) Q Ee s := by
  obtain ⟨g1, g2, g3⟩ := hc
  rcases g3 with g3 | ⟨g3, g4, g5⟩
  · exact ld_glob S g1 g3 q g2
  · exact ld_blt S g1 g3 g4 q g5 g2
theorem funFrames_push {B h : Heap} (o : Obj) : ∀ {l : List Env}, h.FunFrames B l → (h.push o).FunFrames B l := fun {l} x => x.of_keeps fun b u e _ => ⟨u, Heap.get?_push_of_some _ e, rfl⟩
theorem flying_push {B h : Heap} {l : List Env} {a : Addr} {Z : Obj → Prop} (o : Obj) (x : PySem.HandSPX.FlyingZ B l a Z h) : PySem.HandSPX.FlyingZ B l a Z (h.push o) := by
  obtain ⟨h1, h2, h3, oe, vs, T, oT, ts, k1, k2, k3, k4, k5, k6, k7, k8⟩ := x
  exact ⟨fun b u e => Heap.get?_push_of_some _ (h1 b u e), h2, funFrames_push o h3, oe, vs, T, oT, ts, Heap.get?_push_of_some _ k1, k2, k3, k4, k5, k6, Heap.get?_push_of_some _ k7, k8⟩
theorem upTo_push {h h' : Heap} (o : Obj) (x : h.UpToSlots h') : h.UpToSlots (h'.push o) := fun b u e n => let ⟨sl, z⟩ := x b u e n; ⟨sl, Heap.get?_push_of_some _ z⟩
/-- where the exception at a has come to rest, the clauses are asked one by one -/
theorem clauses_run {pins : List (Addr × Obj)} {a : Addr} {B : Heap} {sI s' : Shared} {σ' : L2.St} {H' : Hp} {cls : Value} {d : Option Addr} {D : Ends} (hs : X.stack = X.env :: X.outer) (hf : X.env.frame = some X.env.locals) (tk : L2.Takes X Wout) (ok : X.Ok) (nd : X.N.Nodup)
    (J : L2.Inv X pins σ' H' sI) (nb : ∀ b o, sI.heap.get? b = some o → b ∉ frs X.stack → B.get? b = some o) (na : H' a = none) (os : s'.os = sI.os) (ag : AllBare s'.gens) (nL : a ≠ X.env.locals) (nF : a ∉ X.fs) :
    ∀ {hds' : List ExceptHandler} {l' : List Clause}, HdsA X hds' l' → wAny X.K Wout D l' cls d σ' H' → ∀ h3 : Heap, PySem.HandSPX.FlyingZ B (X.env :: X.outer) a (Zc cls d) h3 → sI.heap.UpToSlots h3 →
        wpAny (model X.prog X.w) X.A (handleBy (.ref a) X.env hds') (SP X pins D) X.xe { s' with heap := h3 } := by
  intro hds' l' hk
  induction hk with
  | nil =>
    intro w h3 fl up
    refine wpAny_handleBy_nil ?_
    obtain ⟨k1, k2, k3, oe', vs', Tb, oT, ts', he', hz', hd', h1, hr⟩ := id fl
    have fin : wpAny (model X.prog X.w) X.A (setFlight (.ref a) X.env.frame) (fun _ s4 => wpAny (model X.prog X.w) X.A (throw (.ref a) : Sem Flow) (SP X pins D) X.xe s4) X.xe { s' with heap := h3 } := by
      rw [hf]
      refine PySem.HandSPX.setFlight_upZ fl fun h4 hh4 up4 => wpAny_throw (tk _ _ ?_)
      exact ⟨a, B, sI, pins, σ', H', cls, d, rfl, J, nb, up.trans up4, .inr (.inr (by rw [hs]; exact hh4)), na, os, ag, w⟩
    unfold PySem.passOn
    refine wpAny_bind (wpAny_field he' hd' h1 ?_)
    rw [if_neg (by simp)]
    first
      | exact wpAny_bind (wpAny_pure (wpAny_bind fin))
      | exact wpAny_bind fin
  | @bare x c ts b₀ b p p' hds2 l2 hc hsu r ih =>
    rintro ⟨t, e1, yes, no⟩ h3 fl up
    have J3 : L2.Inv X pins σ' H' { s' with heap := h3 } := J.landed nb fl.1 up os ag
    obtain ⟨oe, vs, he, hz, hd⟩ := fl.there
    have S3 := J3.suite he hd na nL nF
    have LT : PySem.W.Looks (model X.prog X.w) h3 (typeOf (.ref a)) cls := fun A Q E s k q => wpAny_typeOf_ref (k _ _ he) (by rw [hz.1]; exact q)
    refine wpAny_handleBy_cons (codeAny_handlers_test ?_) (by intro q; cases q)
    refine names_ev (Y := X.suite a ((a, oe) :: (X.pn ++ pins))) hc S3 ((PySem.W.exm_one (M := model X.prog X.w) J3.kIn LT e1).here ?_)
    cases t with
    | false => exact ih (no rfl) h3 fl up
    | true =>
      refine codeAny_handlers_suite (PySem.HandSPX.lands_againZ fl fun h4 fl4 up4 => ?_)
      have J4 : L2.Inv X pins σ' H' { s' with heap := h4 } := J.landed nb fl4.1 (up.trans up4) os ag
      obtain ⟨oe4, vs4, he4, hz4, hd4⟩ := fl4.there
      refine wpAny_mono ((hsu a oe4 cls d (X.pn ++ pins) hz4 ⟨_, hd4⟩).run [] _ _ H' _ (J4.suite he4 hd4 na nL nF) (yes rfl a na)) (fun f s6 hsp => ?_) (fun _ _ z => False.elim z)
      cases f with
      | ret u =>
        obtain ⟨v6, σ6, H6, S6, r6, q6⟩ := hsp
        exact ⟨v6, σ6, H6, S6.unsuite ok, r6, q6⟩
      | next => exact let ⟨σ6, H6, S6, q6⟩ := hsp; ⟨σ6, H6, S6.unsuite ok, q6⟩
      | brk => exact let ⟨σ6, H6, S6, q6⟩ := hsp; ⟨σ6, H6, S6.unsuite ok, q6⟩
      | cont => exact let ⟨σ6, H6, S6, q6⟩ := hsp; ⟨σ6, H6, S6.unsuite ok, q6⟩
  | @tup x y c e ts b₀ b p q r p' k hds2 l2 hc hc2 hsu rr ih =>
    rintro ⟨t, e1, yes, no⟩ h3 fl up
    have J3 : L2.Inv X pins σ' H' { s' with heap := h3 } := J.landed nb fl.1 up os ag
    obtain ⟨oe, vs, he, hz, hd⟩ := fl.there
    have S3 := J3.suite he hd na nL nF
    refine wpAny_handleBy_cons (codeAny_handlers_test ?_) (by intro q; cases q)
    refine wpAny_Tuple_spliced (Calls.spliced_cons (names_ev (Y := X.suite a ((a, oe) :: (X.pn ++ pins))) hc S3 (Calls.spliced_cons (names_ev (Y := X.suite a ((a, oe) :: (X.pn ++ pins))) hc2 S3 (Calls.spliced_nil ⟨by show 2 ≤ sizeLine; decide, ?_⟩)))))
    have fl' := flying_push { cls := .type "tuple", data := .seq [c, e].toArray } fl
    have up' := upTo_push { cls := .type "tuple", data := .seq [c, e].toArray } up
    have J3' : L2.Inv X pins σ' H' { s' with heap := h3.push { cls := .type "tuple", data := .seq [c, e].toArray } } := J.landed nb fl'.1 up' os ag
    have he' := Heap.get?_push_of_some { cls := .type "tuple", data := .seq [c, e].toArray } he
    have LT : PySem.W.Looks (model X.prog X.w) (h3.push { cls := .type "tuple", data := .seq [c, e].toArray }) (typeOf (.ref a)) cls := fun A Q E s k q => wpAny_typeOf_ref (k _ _ he') (by rw [hz.1]; exact q)
    refine (PySem.W.exm_tup2 (M := model X.prog X.w) (tp := h3.objs.size) J3'.kIn LT (Heap.get?_push_size _ rfl) e1).here ?_
    cases t with
    | false => exact ih (no rfl) _ fl' up'
    | true =>
      refine codeAny_handlers_suite (PySem.HandSPX.lands_againZ fl' fun h4 fl4 up4 => ?_)
      have J4 : L2.Inv X pins σ' H' { s' with heap := h4 } := J.landed nb fl4.1 (up'.trans up4) os ag
      obtain ⟨oe4, vs4, he4, hz4, hd4⟩ := fl4.there
      refine wpAny_mono ((hsu a oe4 cls d (X.pn ++ pins) hz4 ⟨_, hd4⟩).run [] _ _ H' _ (J4.suite he4 hd4 na nL nF) (yes rfl a na)) (fun f s6 hsp => ?_) (fun _ _ z => False.elim z)
      cases f with
      | ret u =>
        obtain ⟨v6, σ6, H6, S6, r6, q6⟩ := hsp
        exact ⟨v6, σ6, H6, S6.unsuite ok, r6, q6⟩
      | next => exact let ⟨σ6, H6, S6, q6⟩ := hsp; ⟨σ6, H6, S6.unsuite ok, q6⟩
      | brk => exact let ⟨σ6, H6, S6, q6⟩ := hsp; ⟨σ6, H6, S6.unsuite ok, q6⟩
      | cont => exact let ⟨σ6, H6, S6, q6⟩ := hsp; ⟨σ6, H6, S6.unsuite ok, q6⟩
  | @named x n i c ts b₀ b p p' hds2 l2 hc hi hl hsu r ih =>
    rintro ⟨t, e1, yes, no⟩ h3 fl up
    have J3 : L2.Inv X pins σ' H' { s' with heap := h3 } := J.landed nb fl.1 up os ag
    obtain ⟨oe, vs, he, hz, hd⟩ := fl.there
    have S3 := J3.suite he hd na nL nF
    have LT : PySem.W.Looks (model X.prog X.w) h3 (typeOf (.ref a)) cls := fun A Q E s k q => wpAny_typeOf_ref (k _ _ he) (by rw [hz.1]; exact q)
    refine wpAny_handleBy_cons (codeAny_handlers_test ?_) (by intro q; cases q)
    refine names_ev (Y := X.suite a ((a, oe) :: (X.pn ++ pins))) hc S3 ((PySem.W.exm_one (M := model X.prog X.w) J3.kIn LT e1).here ?_)
    cases t with
    | false => exact ih (no rfl) h3 fl up
    | true =>
      refine codeAny_handlers_suite_as (PySem.HandSPX.lands_againZ fl fun h4 fl4 up4 => ?_)
      have J4 : L2.Inv X pins σ' H' { s' with heap := h4 } := J.landed nb fl4.1 (up.trans up4) os ag
      obtain ⟨oe4, vs4, he4, hz4, hd4⟩ := fl4.there
      refine store_ok (X := X.suite a ((a, oe4) :: (X.pn ++ pins))) (v := V.ref a) (J4.suite he4 hd4 na nL nF) nd hi (.inl hl) rfl (fun s5 S5 => ?_) (.inr hl)
      refine wpAny_mono ((hsu a oe4 cls d (X.pn ++ pins) hz4 ⟨_, hd4⟩).run [] s5 _ H' _ S5 (yes rfl a na)) (fun f s6 hsp => ?_) (fun _ _ z => False.elim z)
      have away : ∀ {σ6 : L2.St} {H6 : Hp} {Q : Shared → Prop}, L2.Inv (X.suite a ((a, oe4) :: (X.pn ++ pins))) [] σ6 H6 s6 → (∀ s7, L2.Inv X pins (σ6.set i none) H6 s7 → Q s7) →
          wpAny (model X.prog X.w) X.A (do bindName X.env n .none; unbindBehindTheSuite X.env n p') (fun _ s7 => Q s7) X.xe s6 := fun S6 hq => gone_ok (S6.unsuite ok) nd hi hl hq
      cases f with
      | ret u =>
        obtain ⟨v6, σ6, H6, S6, r6, q6⟩ := hsp
        exact away S6 fun s7 J7 => ⟨v6, _, H6, J7, r6, q6⟩
      | next => exact let ⟨σ6, H6, S6, q6⟩ := hsp; away S6 fun s7 J7 => ⟨_, H6, J7, q6⟩
      | brk => exact let ⟨σ6, H6, S6, q6⟩ := hsp; away S6 fun s7 J7 => ⟨_, H6, J7, q6⟩
      | cont => exact let ⟨σ6, H6, S6, q6⟩ := hsp; away S6 fun s7 J7 => ⟨_, H6, J7, q6⟩
/-- try: body / except ..: .. (some with a name, some without) -/
theorem ps_try_anyA (hs : X.stack = X.env :: X.outer) (hf : X.env.frame = some X.env.locals) (tk : L2.Takes X Wout) (nd : X.N.Nodup)
    (hb : ∀ (W : L2.WX) (pn : List (Addr × Obj)) (xe : Value → Shared → Prop), L2.Takes (X.tr pn xe) W → PassesOwn (model X.prog X.w) X.A X.env xe → (∀ hd : Option Value, PassesOwnAt (model X.prog X.w) (X.A.mark hd) X.A X.env xe) → PSs (X.tr pn xe) body (tb W))
    (hh : HdsA X (h₀ :: hds) l) : PS X (.Try body (h₀ :: hds) [] [] pos) (fun D σ H => tb (wAny X.K Wout D l) D σ H) := by
  refine ⟨fun pins s σ H D I h => ?_⟩
  have ok := I.ok
  have hfr : X.A.frames = some (X.env :: X.outer) := by rw [ok.frames, hs]
  refine wpAny_Try_except (wpAny_mono ((hb (wAny X.K Wout D l) (X.pn ++ pins) (fun e s₁ => wpAny (model X.prog X.w) X.A (noteFrame e X.env) (fun _ s₂ => wpAny (model X.prog X.w) X.A (setFlight e none) (fun _ s₃ =>
    wpAny (model X.prog X.w) X.A (handleBy e X.env (h₀ :: hds)) (SP X pins D) X.xe s₃) X.xe s₂) X.xe s₁) (fun u s' xx => ?_) PassesOwn.looking (fun hd => PassesOwnAt.looking)).run [] s σ H D (I.toTry _) h) (fun f s1 hsp => ?_) (fun e s1 he => he))
  · obtain ⟨a, B, sI, pins', σ', H', cls, d, rfl, J', nb, up, sky, na, os, ag, w⟩ := xx
    have sky' : Sky B (X.env :: X.outer) a (Zc cls d) X.env.locals s'.heap := by rw [← hs]; exact sky
    show wpAny (model X.prog X.w) X.A (noteFrame (.ref a) X.env) _ _ _
    refine Sky.land Zc.steady hfr hf sky' fun h3 fl3 up3 => ?_
    obtain ⟨oe3, vs3, he3, hz3, hd3⟩ := fl3.there
    have off : a ∉ frs (X.env :: X.outer) := fun hm => by
      obtain ⟨_, o', e', q⟩ := fl3.2.2.1.mem hm
      rw [he3] at e'
      cases e'
      exact q _ hd3
    refine clauses_run hs hf tk ok nd (J'.ofTry ok) nb na os ag (fun z => off ?_) (fun hm => off ?_) hh w h3 fl3 (up.trans up3)
    · rw [z]
      exact List.mem_filterMap.mpr ⟨X.env, List.mem_cons_self, hf⟩
    · obtain ⟨e, he, q⟩ := List.mem_filterMap.mp hm
      exact List.mem_filterMap.mpr ⟨e, List.mem_cons_of_mem _ he, q⟩
  · cases f with
    | next =>
      obtain ⟨σ', H', J', q⟩ := hsp
      exact wpAny_execs_nil ⟨σ', H', J'.ofTry ok, q⟩
    | ret u =>
      obtain ⟨v, σ', H', J', r, q⟩ := hsp
      exact ⟨v, σ', H', J'.ofTry ok, r, q⟩
    | brk => exact let ⟨σ', H', J', q⟩ := hsp; ⟨σ', H', J'.ofTry ok, q⟩
    | cont => exact let ⟨σ', H', J', q⟩ := hsp; ⟨σ', H', J'.ofTry ok, q⟩
theorem ps_try_any (hs : X.stack = X.env :: X.outer) (hf : X.env.frame = some X.env.locals) (tk : L2.Takes X Wout) (nd : X.N.Nodup)
    (hb : ∀ (W : L2.WX) (pn : List (Addr × Obj)) (xe : Value → Shared → Prop), L2.Takes (X.tr pn xe) W → PassesOwn (model X.prog X.w) X.A X.env xe → PSs (X.tr pn xe) body (tb W)) (hh : HdsA X (h₀ :: hds) l) : PS X (.Try body (h₀ :: hds) [] [] pos) (fun D σ H => tb (wAny X.K Wout D l) D σ H) :=
  ps_try_anyA hs hf tk nd (fun W pn xe t p _ => hb W pn xe t p) hh
end
end DI
set_option maxHeartbeats 4000000
/-! # one except clause, of one class or of two, whose suite may raise -/
namespace DI
open PySem PySem.Spec PyProof.Rows L2
inductive ClsX (X : Cx) : PySem.Expr → List Value → Prop
  | one {x : Str} {c : Value} {p : Pos} : Names X x c → ClsX X (.Name x p) [c]
  | two {x y : Str} {c e : Value} {p q r : Pos} {k : Nat} : Names X x c → Names X y e → ClsX X (.Tuple [.Name x p, .Name y q] k r) [c, e]
/-- what such a try wishes of what flies -/
def wX (K : PySem.W.Frag) (cs : List Value) (ts : Addr → Value → Option Addr → TS) (Wout : L2.WX) (D : Ends) : L2.WX := fun cls d σ H =>
  ∃ b, exmC K cls cs = some b ∧ (b = true → ∀ a, H a = none → ts a cls d D σ H) ∧ (b = false → Wout cls d σ H)
def wXpass (K : PySem.W.Frag) (cs : List Value) (Wout : L2.WX) : L2.WX := fun cls d σ H => exmC K cls cs = some false ∧ Wout cls d σ H
section
variable {X : Cx} {ty : PySem.Expr} {cs : List Value} {body suite : List Stmt} {b₀ : Stmt} {pos pos' : Pos} {tb : L2.WX → TS} {ts : Addr → Value → Option Addr → TS} {Wout : L2.WX}
/-- the clause's classes are asked -/
theorem cls_test {pins pn : List (Addr × Obj)} {σ : L2.St} {H : Hp} {s' : Shared} {h3 : Heap} {a : Addr} {oe : Obj} {cls : Value} {t : Bool} {Q : Value → Shared → Prop} {Ee : Value → Shared → Prop} (ct : ClsX X ty cs) (K3 : X.K.In h3) (he : h3.get? a = some oe) (hcl : oe.cls = cls)
    (S3 : L2.Inv (X.suite a ((a, oe) :: pn)) pins σ H { s' with heap := h3 }) (e1 : exmC X.K cls cs = some t)
    (hq : ∀ (h4 : Heap) (c : Value), (h4 = h3 ∨ ∃ o, h4 = h3.push o) → PySem.W.Looks (model X.prog X.w) h4 (excMatches (.ref a) c) t → Q c { s' with heap := h4 }) : wpAny (model X.prog X.w) (X.A.mark (some (.ref a))) (eval ty X.env) Q Ee { s' with heap := h3 } := by
  have LT : ∀ h4 : Heap, h4.get? a = some oe → PySem.W.Looks (model X.prog X.w) h4 (typeOf (.ref a)) cls := fun h4 e A Q E s k q => wpAny_typeOf_ref (k _ _ e) (by rw [hcl]; exact q)
  cases ct with
  | one hc => exact names_ev (Y := X.suite a ((a, oe) :: pn)) hc S3 (hq h3 _ (.inl rfl) (PySem.W.exm_one (M := model X.prog X.w) K3 (LT _ he) e1))
  | two hc hc2 =>
    refine wpAny_Tuple_spliced (Calls.spliced_cons (names_ev (Y := X.suite a ((a, oe) :: pn)) hc S3 (Calls.spliced_cons (names_ev (Y := X.suite a ((a, oe) :: pn)) hc2 S3 (Calls.spliced_nil ⟨by show 2 ≤ sizeLine; decide, ?_⟩)))))
    refine hq _ _ (.inr ⟨_, rfl⟩) (PySem.W.exm_tup2 (M := model X.prog X.w) (tp := h3.objs.size) (fun b o e => Heap.get?_push_of_some _ (K3 b o e)) (LT _ (Heap.get?_push_of_some _ he)) (Heap.get?_push_size _ rfl) e1)
/-- what no clause takes flies on -/
theorem fly_on {pins : List (Addr × Obj)} {a : Addr} {B : Heap} {sI s' : Shared} {σ' : L2.St} {H' : Hp} {cls : Value} {d : Option Addr} {h3 : Heap} {D : Ends} (hs : X.stack = X.env :: X.outer) (hf : X.env.frame = some X.env.locals) (tk : L2.Takes X Wout)
    (J : L2.Inv X pins σ' H' sI) (nb : ∀ b o, sI.heap.get? b = some o → b ∉ frs X.stack → B.get? b = some o) (up : sI.heap.UpToSlots h3) (fl3 : PySem.HandSPX.FlyingZ B (X.env :: X.outer) a (Zc cls d) h3) (na : H' a = none) (os : s'.os = sI.os) (ag : AllBare s'.gens) (w : Wout cls d σ' H') :
    wpAny (model X.prog X.w) X.A (handleBy (.ref a) X.env []) (SP X pins D) X.xe { s' with heap := h3 } := by
  refine wpAny_handleBy_nil ?_
  obtain ⟨k1, k2, k3, oe, vs, T, oT, ts', he, hz, hd, h1, hr⟩ := id fl3
  have fin : wpAny (model X.prog X.w) X.A (setFlight (.ref a) X.env.frame) (fun _ s4 => wpAny (model X.prog X.w) X.A (throw (.ref a) : Sem Flow) (SP X pins D) X.xe s4) X.xe { s' with heap := h3 } := by
    rw [hf]
    refine PySem.HandSPX.setFlight_upZ fl3 fun h4 hh4 up4 => wpAny_throw (tk _ _ ?_)
    exact ⟨a, B, sI, pins, σ', H', cls, d, rfl, J, nb, up.trans up4, .inr (.inr (by rw [hs]; exact hh4)), na, os, ag, w⟩
  unfold PySem.passOn
  refine wpAny_bind (wpAny_field he hd h1 ?_)
  rw [if_neg (show ¬ ((Value.ref T == Value.none) = true) from by simp)]
  first
    | exact wpAny_bind (wpAny_pure (wpAny_bind fin))
    | exact wpAny_bind fin
theorem ps_tryX (hs : X.stack = X.env :: X.outer) (hf : X.env.frame = some X.env.locals) (hpa : ∀ hd : Option Value, PassesOwnAt (model X.prog X.w) (X.A.mark hd) X.A X.env X.xe) (tk : L2.Takes X Wout) (ct : ClsX X ty cs)
    (hb : ∀ (W : L2.WX) (pn : List (Addr × Obj)) (xe : Value → Shared → Prop), L2N.Takes (X.tr pn xe) W → L2.Takes (X.tr pn xe) (wXpass X.K cs Wout) → PassesOwn (model X.prog X.w) X.A X.env xe → (∀ hd : Option Value, PassesOwnAt (model X.prog X.w) (X.A.mark hd) X.A X.env xe) → PSs (X.tr pn xe) body (tb W))
    (hsu : ∀ (a : Addr) (oe : Obj) (cls : Value) (d : Option Addr) (pn : List (Addr × Obj)), L2N.Zn cls d oe → (∃ vs, oe.data = .fields vs) → L2.Takes (L2H.suiteX X a ((a, oe) :: pn)) Wout → L2H.HotC (L2H.suiteX X a ((a, oe) :: pn)) →
      PSs (L2H.suiteX X a ((a, oe) :: pn)) (b₀ :: suite) (ts a cls d)) :
    PS X (.Try body [.ExceptHandler (some ty) none (b₀ :: suite) pos'] [] [] pos) (fun D σ H => tb (wX X.K cs ts Wout D) D σ H) := by
  refine ⟨fun pins s σ H D I h => ?_⟩
  have ok := I.ok
  have hfr : X.A.frames = some (X.env :: X.outer) := by rw [ok.frames, hs]
  have away : ∀ {B h : Heap} {a : Addr} {o : Obj} {vs : Array Value}, h.FunFrames B (X.env :: X.outer) → h.get? a = some o → o.data = .fields vs → a ≠ X.env.locals ∧ a ∉ X.fs := fun {B h a o vs} ff e dd => by
    have off : a ∉ frs (X.env :: X.outer) := fun hm => by
      obtain ⟨_, o', e', hnf⟩ := ff.mem hm
      rw [e] at e'
      cases e'
      exact hnf _ dd
    refine ⟨fun z => off ?_, fun hm => off ?_⟩
    · rw [z]
      exact List.mem_filterMap.mpr ⟨X.env, List.mem_cons_self, hf⟩
    · obtain ⟨e, he, q⟩ := List.mem_filterMap.mp hm
      exact List.mem_filterMap.mpr ⟨e, List.mem_cons_of_mem _ he, q⟩
  refine wpAny_Try_except (wpAny_mono ((hb (wX X.K cs ts Wout D) (X.pn ++ pins) (fun e s₁ => wpAny (model X.prog X.w) X.A (noteFrame e X.env) (fun _ s₂ => wpAny (model X.prog X.w) X.A (setFlight e none) (fun _ s₃ =>
    wpAny (model X.prog X.w) X.A (handleBy e X.env [.ExceptHandler (some ty) none (b₀ :: suite) pos']) (SP X pins D) X.xe s₃) X.xe s₂) X.xe s₁) (fun u s' xx => ?_) (fun u s' xx => ?_) PassesOwn.looking (fun hd => PassesOwnAt.looking)).run [] s σ H D (I.toTry _) h) (fun f s1 hsp => ?_) (fun e s1 he => he))
  · obtain ⟨a, B, sI, pins', σ', H', cls, d, rfl, J', nb, up, sky, na, os, ag, t, e1, yes, no⟩ := xx
    have J : L2.Inv X pins σ' H' sI := J'.ofTry ok
    have sky' : Sky B (X.env :: X.outer) a (L2N.Zn cls d) X.env.locals s'.heap := by rw [← hs]; exact sky
    show wpAny (model X.prog X.w) X.A (noteFrame (.ref a) X.env) _ _ _
    refine L2N.Sky.land L2N.Zn.steady hfr hf sky' fun h3 fl3 up3 => ?_
    have J3 : L2.Inv X pins σ' H' { s' with heap := h3 } := J.landed nb fl3.1 (up.trans up3) os ag
    obtain ⟨oe3, vs3, he3, hz3, hd3⟩ := fl3.there
    obtain ⟨nL, nF⟩ := away fl3.2.2.1 he3 hd3
    refine wpAny_handleBy_cons (codeAny_handlers_test ?_) (by intro q; cases q)
    refine cls_test ct J3.kIn he3 hz3.1 (J3.suite he3 hd3 na nL nF) e1 fun h4 c hh LM => LM.here ?_
    have fl4 : PySem.HandSPX.FlyingZ B (X.env :: X.outer) a (L2N.Zn cls d) h4 := by
      rcases hh with rfl | ⟨o, rfl⟩
      · exact fl3
      · exact flying_push o fl3
    have up4 : sI.heap.UpToSlots h4 := by
      rcases hh with rfl | ⟨o, rfl⟩
      · exact up.trans up3
      · exact upTo_push o (up.trans up3)
    cases t with
    | true =>
      refine codeAny_handlers_suite (PySem.HandSPX.lands_againZ fl4 fun h5 fl5 up5 => ?_)
      have J5 : L2.Inv X pins σ' H' { s' with heap := h5 } := J.landed nb fl5.1 (up4.trans up5) os ag
      obtain ⟨oe5, vs5, he5, hz5, hd5⟩ := fl5.there
      have tkS : L2.Takes (L2H.suiteX X a ((a, oe5) :: (X.pn ++ pins))) Wout := fun u2 s2 ⟨a2, B2, sI2, pn2, σ2, H2, cls2, d2, e2, I2, nb2, up2, sky2, na2, os2, ag2, w2⟩ =>
        tk u2 s2 ⟨a2, B2, sI2, pins, σ2, H2, cls2, d2, e2, L2H.unsuiteX I2 ok, nb2, up2, sky2, na2, os2, ag2, w2⟩
      have hot : L2H.HotC (L2H.suiteX X a ((a, oe5) :: (X.pn ++ pins))) := ⟨(a, oe5), ⟨rfl, vs5, hd5, hz5.2.2 vs5 hd5⟩, List.mem_cons_self⟩
      refine wpAny_mono ((hsu a oe5 cls d (X.pn ++ pins) hz5 ⟨_, hd5⟩ tkS hot).run [] _ _ H' _ (L2H.suiteX_of (J5.suite he5 hd5 na nL nF)) (yes rfl a na)) (fun f s6 hsp => ?_) (fun e6 s6 z => hpa (some (.ref a)) e6 s6 z)
      cases f with
      | ret u =>
        obtain ⟨v6, σ6, H6, S6, r6, q6⟩ := hsp
        exact ⟨v6, σ6, H6, L2H.unsuiteX S6 ok, r6, q6⟩
      | next => exact let ⟨σ6, H6, S6, q6⟩ := hsp; ⟨σ6, H6, L2H.unsuiteX S6 ok, q6⟩
      | brk => exact let ⟨σ6, H6, S6, q6⟩ := hsp; ⟨σ6, H6, L2H.unsuiteX S6 ok, q6⟩
      | cont => exact let ⟨σ6, H6, S6, q6⟩ := hsp; ⟨σ6, H6, L2H.unsuiteX S6 ok, q6⟩
    | false =>
      show wpAny _ X.A (handleBy (.ref a) X.env []) _ _ _
      exact fly_on hs hf tk J nb up4 (L2H.flyingZ_imp (fun o z => z.zc) fl4) na os ag (no rfl)
  · obtain ⟨a, B, sI, pins', σ', H', cls, d, rfl, J', nb, up, sky, na, os, ag, e1, no⟩ := xx
    have J : L2.Inv X pins σ' H' sI := J'.ofTry ok
    have sky' : Sky B (X.env :: X.outer) a (Zc cls d) X.env.locals s'.heap := by rw [← hs]; exact sky
    show wpAny (model X.prog X.w) X.A (noteFrame (.ref a) X.env) _ _ _
    refine L2.Sky.land Zc.steady hfr hf sky' fun h3 fl3 up3 => ?_
    have J3 : L2.Inv X pins σ' H' { s' with heap := h3 } := J.landed nb fl3.1 (up.trans up3) os ag
    obtain ⟨oe3, vs3, he3, hz3, hd3⟩ := fl3.there
    obtain ⟨nL, nF⟩ := away fl3.2.2.1 he3 hd3
    refine wpAny_handleBy_cons (codeAny_handlers_test ?_) (by intro q; cases q)
    refine cls_test ct J3.kIn he3 hz3.1 (J3.suite he3 hd3 na nL nF) e1 fun h4 c hh LM => LM.here ?_
    show wpAny _ X.A (handleBy (.ref a) X.env []) _ _ _
    refine fly_on hs hf tk J nb (h3 := h4) ?_ ?_ na os ag no
    · rcases hh with rfl | ⟨o, rfl⟩
      · exact up.trans up3
      · exact upTo_push o (up.trans up3)
    · rcases hh with rfl | ⟨o, rfl⟩
      · exact fl3
      · exact flying_push o fl3
  · cases f with
    | next =>
      obtain ⟨σ', H', J', q⟩ := hsp
      exact wpAny_execs_nil ⟨σ', H', J'.ofTry ok, q⟩
    | ret u =>
      obtain ⟨v, σ', H', J', r, q⟩ := hsp
      exact ⟨v, σ', H', J'.ofTry ok, r, q⟩
    | brk => exact let ⟨σ', H', J', q⟩ := hsp; ⟨σ', H', J'.ofTry ok, q⟩
    | cont => exact let ⟨σ', H', J', q⟩ := hsp; ⟨σ', H', J'.ofTry ok, q⟩
end
end DI
set_option maxHeartbeats 4000000
/-! # an own exception of two fields, made -/
namespace DI
open PySem PySem.Spec PyProof.Rows L2
/-- nothing is let out -/
def noCX : CXT := fun _ _ _ _ _ _ => False
/-- what its __init__ keeps: the two fields are written -/
def sp2 (C : Addr) (f1 f2 : Str) : Sp := fun vs H Q _ => ∃ a x y, vs = [V.ref a, x, y] ∧ H a = some (exo a C none) ∧
  ∀ dx, H dx = none → dx ≠ a → Q .non (upd (upd (upd H dx (exd dx [(f1, x)])) a (exo a C (some dx))) dx (exd dx [(f2, y), (f1, x)]))
/-- the words of such an __init__ -/
def ini2 (sf a1 a2 f1 f2 : Str) (q : Nat → Pos) : List Stmt :=
  .Expr (.Call (.Attribute (.Call (.Name "super" (q 0)) [] [] (q 1)) "__init__" (q 2)) [.Name a1 (q 3), .Name a2 (q 4)] [] (q 5)) (q 6) ::
    [.Assign [.Attribute (.Name sf (q 7)) f1 (q 8)] (.Name a1 (q 9)) (q 10), .Assign [.Attribute (.Name sf (q 11)) f2 (q 12)] (.Name a2 (q 13)) (q 14)]
/-- the call of super().__init__ is read as a method's call (by the places of its words) -/
def CallAt (a1 a2 : Str) (q : Nat → Pos) : Prop := ∀ env : Env, eval (.Call (.Attribute (.Call (.Name "super" (q 0)) [] [] (q 1)) "__init__" (q 2)) [.Name a1 (q 3), .Name a2 (q 4)] [] (q 5)) env = (do
      let ov ← attributeBase (.Call (.Name "super" (q 0)) [] [] (q 1)) "__init__" env (eval (.Call (.Name "super" (q 0)) [] [] (q 1)) env)
      standAt (q 2).atName
      let (f, first) ← holding [ov] (getMethod ov "__init__" (pure false))
      callWith (q 5) f first (backTo (q 5) (starEach [.Name a1 (q 3), .Name a2 (q 4)] env)) [])
section
variable {CX : CXT} {P : Program} {w : World} {K : PySem.W.Frag} {mg : Str → Option Value} {base : Heap} {name qual : Str} {params : Arguments} {scope : Scope} {dV kV doc pm ct : Value} {an : Option Addr} {fI cda cc C : Addr}
theorem ini2_ok {sf a1 a2 f1 f2 : Str} {q : Nat → Pos} (S : IScope [sf, a1, a2] [sf, a1, a2] scope) (T : InF P K mg C fI cda cc (PySem.W.ksFn name qual params (ini2 sf a1 a2 f1 f2 q) scope dV kV doc pm an (.ref cda) ct cc) sf)
    (hcd : PySem.W.codeIn K (.ref cda) qual = true) (hca : CallAt a1 a2 q) (n1 : PySem.W.findIn K (.ref C) f1 = some none) (n2 : PySem.W.findIn K (.ref C) f2 = some none)
    (d0 : (sf == ("__debug__" : Str)) = false) (d1 : (a1 == ("__debug__" : Str)) = false) (d2 : (a2 == ("__debug__" : Str)) = false) (c0 : (sf == ("__classdict__" : Str)) = false) (c1 : (a1 == ("__classdict__" : Str)) = false) (c2 : (a2 == ("__classdict__" : Str)) = false) :
    FnOk P w K mg base CX 1 fI (PySem.W.ksFn name qual params (ini2 sf a1 a2 f1 f2 q) scope dV kV doc pm an (.ref cda) ct cc) [sf, a1, a2] (sp2 C f1 f2) := by
  refine init_ok (k := 0) (ps := [sf, a1, a2]) S T rfl hcd (fun vs H Q E h => ?_) (fun A outer s H vs Q E h => ?_) (hc := fun A outer s H E => hca _)
  · obtain ⟨a, x, y, rfl, _⟩ := h
    rfl
  · obtain ⟨a, x, y, rfl, hH, hq⟩ := h
    have v0 : ∀ z ∈ [sf, a1, a2], Vis scope z := fun z hz => .inl (S.par z hz)
    refine ⟨a, _, _, rfl, hH, pa_cons (pe_var (i := 1) rfl (v0 a1 (by simp)) d1 c1) (pa_cons (pe_var (i := 2) rfl (v0 a2 (by simp)) d2 c2) pa_nil), pss_cons (ps_ost (pe_var (i := 0) rfl (v0 sf (by simp)) d0 c0) (pe_var (i := 1) rfl (v0 a1 (by simp)) d1 c1)) (pss_one (ps_ost (pe_var (i := 0) rfl (v0 sf (by simp)) d0 c0) (pe_var (i := 2) rfl (v0 a2 (by simp)) d2 c2))), ?_⟩
    refine ⟨x, rfl, y, rfl, by simp, hH, ?_⟩
    refine ⟨x, rfl, .ref a, rfl, a, C, rfl, T.cls, n1, .inl ⟨hH, fun dx hn hne => ?_⟩⟩
    refine ⟨y, rfl, .ref a, rfl, a, C, rfl, T.cls, n2, .inr ⟨dx, [(f1, x)], upd_same, by rw [upd_ne hne, upd_same], by simp, ?_⟩⟩
    exact hq dx hn hne
end
/-- C(e, ..), from such an __init__: the exception's dict stands new -/
theorem pmk_two {X : Cx} {x : Str} {C fI : Addr} {fd : FuncData} {ps : List Str} {f1 f2 : Str} {e : Expr} {es : List Expr} {ta : TA} {p pos : Pos} (T : OexC X.K C) (iC : PySem.W.findIn X.K (.ref C) "__init__" = some (some (.ref fI))) (tI : PySem.W.typeIn X.K (.ref fI) = some (.type "function"))
    (F1 : FnOk X.prog X.w X.K X.mg X.base noCX 1 fI fd ps (sp2 C f1 f2)) (hr : Room 2 X.A) (hb : L2.Binds X.K fd ps []) (hg : Gl X x) (hm : X.mg x = some (.ref C)) (ha : PA X (e :: es) ta) (hdb : (x == ("__debug__" : Str)) = false)
    (he : starEach (e :: es) X.env = (false, eval e X.env) :: starEach es X.env) (hpl : (backTo pos (starEach es X.env)).any (·.1) = false) :
    PMk X (.Call (.Name x p) (e :: es) [] pos) (tMkO C (sp2 C f1 f2) [] ta) :=
  pmk_oex T iC tI F1 hr hb .nil (fun pins σ H s u s' I h => (show False from h).elim) hg hm ha hdb he hpl
/-- C(e, ..) by an own __init__: an exception that bears no other one -/
theorem pmk_newN {X : Cx} {Cb : CXT} {x : Str} {C fI : Addr} {k : Nat} {fd : FuncData} {ps : List Str} {sp : L2.Sp} {e : Expr} {es : List Expr} {ta : TA} {p pos : Pos} (O : OexC X.K C) (hi : PySem.W.findIn X.K (.ref C) "__init__" = some (some (.ref fI))) (ht : PySem.W.typeIn X.K (.ref fI) = some (.type "function"))
    (F1 : FnOk X.prog X.w X.K X.mg X.base Cb k fI fd ps sp) (room : Room (k + 1) X.A) (bd : L2.Binds X.K fd ps []) (hx : Passes Cb X (fun _ _ _ => False)) (hg : Gl X x) (hm : X.mg x = some (.ref C)) (ha : PA X (e :: es) ta) (hdb : (x == ("__debug__" : Str)) = false)
    (hse : starEach (e :: es) X.env = (false, eval e X.env) :: starEach es X.env) (hpl : (backTo pos (starEach es X.env)).any (·.1) = false) : L2N.PMk X (.Call (.Name x p) (e :: es) [] pos) (tMkO C sp [] ta) := by
  intro pins st σ H Q I wish
  obtain ⟨nm, q, N, bs, bm, sn, sub, ab, col, dd, k0, k1, k2, k3, k5, oC, hbm⟩ := O.cls
  refine wpAny_Call_Name_kw (ld_glob I hg hm (PySem.W.callWith_K (h₀ := X.base) I.ok.mod.kin O.kC (thn (ha.run pos pins st σ H _ I wish) fun us s1 hh => ?_) hse hpl) hdb)
  obtain ⟨vs, H1, I1, rus, hsz, made⟩ := hh
  refine ⟨I1.kIn, ?_⟩
  show wpAny _ _ (call (.ref C) us) _ _ _
  obtain ⟨hp, g, dr, tk, os⟩ := s1
  have a_new : hp.objs.size ≤ hp.objs.size + 1 := Nat.le_add_right _ 1
  have spOk := made (hp.objs.size + 1) (I1.hok.fresh a_new)
  rw [List.append_nil] at spOk
  have stays : ∀ b u, hp.get? b = some u → ((hp.push (PySem.W.kdv_tup us)).push (PySem.HandSPX.excO C hp.objs.size)).get? b = some u := fun b u h => Heap.get?_push_of_some _ (Heap.get?_push_of_some _ h)
  have stands : ((hp.push (PySem.W.kdv_tup us)).push (PySem.HandSPX.excO C hp.objs.size)).get? (hp.objs.size + 1) = some (PySem.HandSPX.excO C hp.objs.size) := by heap_get
  have I2 := I1.laid (t' := tk) (a := hp.objs.size + 1) (o := exo (hp.objs.size + 1) C none) (h' := (hp.push (PySem.W.kdv_tup us)).push (PySem.HandSPX.excO C hp.objs.size)) stays a_new (exo_ok stands)
  have rall : Vals (V.ref (hp.objs.size + 1) :: vs) (Value.ref (hp.objs.size + 1) :: us) := .cons rfl rus
  have len : (Value.ref (hp.objs.size + 1) :: us ++ []).length = ps.length := by
    rw [List.append_nil, ← Paired.length rall]
    exact F1.len _ _ _ _ spOk
  have few : us.length ≤ sizeLine := by
    rw [sizeLine_eq, ← Paired.length rus]
    omega
  have bound := bd _ (Value.ref (hp.objs.size + 1) :: us) I2.kIn len
  rw [List.append_nil] at bound
  have ran := F1.run _ X.stack _ _ ⟨Value.ref (hp.objs.size + 1) :: us, []⟩ (Value.ref (hp.objs.size + 1) :: us) _ _ (fun _ _ _ => False) (room.make C us []) (I2.env0.make C us []) bound rall spOk
  refine wpAny_call (PySem.HandSPX.call_own F.excBase_ValueError (fun Y => PySem.HandSPX.refsVE_contains Y bm hbm) (I1.kIn _ _ oC) (PySem.W.looks_findIn I1.kIn hi) (fun self => PySem.W.bind_fn I1.kIn self ht) few (codeAny_mono ran fun r s' done => ?_))
  match r, done with
  | .error er, done => exact hx pins σ _ _ er s' I2 done
  | .ok .next, done => exact done.elim
  | .ok .brk, done => exact done.elim
  | .ok .cont, done => exact done.elim
  | .ok (.ret u), done =>
    obtain ⟨v, H2, osE, bareE, unE, hokE, rv, ev, d, fs, ea, ed, free, qE⟩ := done
    subst ev
    obtain ⟨h2, g2, d2, t2, os'⟩ := s'
    obtain ⟨t0, Gr, J, kept, gone, obj, na⟩ := mk_end0 (d2 := d2) (t2 := t2) I1 a_new stays unE hokE osE bareE ea ed free
    refine ⟨rv, hp.objs.size + 1, _, _, ⟨Gr, g2, d2, t2, os'⟩, _, .ref C, some d, rfl, J, kept, gone, obj, ⟨rfl, rfl, fun ws hw => ?_⟩, rfl, rfl, na, rfl, bareE, raises_own O.exC O.tyC, qE⟩
    cases hw
    rfl
/-- the same with two fields -/
theorem pmk_twoN {X : Cx} {x : Str} {C fI : Addr} {fd : FuncData} {ps : List Str} {f1 f2 : Str} {e : Expr} {es : List Expr} {ta : TA} {p pos : Pos} (T : OexC X.K C) (iC : PySem.W.findIn X.K (.ref C) "__init__" = some (some (.ref fI))) (tI : PySem.W.typeIn X.K (.ref fI) = some (.type "function"))
    (F1 : FnOk X.prog X.w X.K X.mg X.base noCX 1 fI fd ps (sp2 C f1 f2)) (hr : Room 2 X.A) (hb : L2.Binds X.K fd ps []) (hg : Gl X x) (hm : X.mg x = some (.ref C)) (ha : PA X (e :: es) ta) (hdb : (x == ("__debug__" : Str)) = false)
    (he : starEach (e :: es) X.env = (false, eval e X.env) :: starEach es X.env) (hpl : (backTo pos (starEach es X.env)).any (·.1) = false) :
    L2N.PMk X (.Call (.Name x p) (e :: es) [] pos) (tMkO C (sp2 C f1 f2) [] ta) :=
  pmk_newN T iC tI F1 hr hb (fun pins σ H s u s' I h => (show False from h).elim) hg hm ha hdb he hpl
/-- what is told of the making, once more -/
theorem mk2_of {C : Addr} {f1 f2 : Str} {H1 : Hp} {u v : V} {Q : XK} (h : ∀ d, H1 d = none → Q (.ref C) (some d) (upd H1 d (.xd [(f2, v), (f1, u)]))) :
    [u, v].length ≤ 1000 ∧ ∀ a, H1 a = none → sp2 C f1 f2 (.ref a :: ([u, v] ++ [])) (upd H1 a (exo a C none))
      (fun w H2 => w = .non ∧ ∃ (d : Addr) (fs : List (Str × V)), H2 a = some (exo a C (some d)) ∧ H2 d = some (exd d fs) ∧ H1 d = none ∧ Q (.ref C) (some d) (upd (L2.del H2 a) d (.xd fs))) (fun _ _ _ => False) := by
  refine ⟨by simp, fun a hn => ⟨a, u, v, rfl, upd_same, fun dx hd hne => ⟨rfl, dx, [(f2, v), (f1, u)], ?_, upd_same, ?_, ?_⟩⟩⟩
  · rw [upd_ne (Ne.symm hne), upd_same]
  · rw [upd_ne hne] at hd
    exact hd
  · have hd' : H1 dx = none := by
      rw [upd_ne hne] at hd
      exact hd
    have e : upd (L2.del (upd (upd (upd (upd H1 a (exo a C none)) dx (exd dx [(f1, u)])) a (exo a C (some dx))) dx (exd dx [(f2, v), (f1, u)])) a) dx (.xd [(f2, v), (f1, u)]) = upd H1 dx (.xd [(f2, v), (f1, u)]) := by
      funext b
      by_cases hb : b = dx
      · rw [hb, upd_same, upd_same]
      · rw [upd_ne hb, upd_ne hb]
        by_cases hba : b = a
        · rw [hba, L2.del_same, hn]
        · rw [L2.del_ne hba, upd_ne hb, upd_ne hba, upd_ne hb, upd_ne hba]
    rw [e]
    exact h dx hd'
end DI
set_option maxHeartbeats 2000000
/-! # DI: operations by values -/
namespace DI
open PySem PySem.Spec L2

theorem upd_some {H : Hp} {a p : Addr} {o : HO} (h : H a ≠ none) : upd H p o a ≠ none := by
  by_cases e : a = p
  · subst e
    rw [upd_same]
    exact nofun
  · rw [upd_ne e]
    exact h
section
variable {G : Gd} {M : Store} {ι : List Addr} {H : Hp}
theorem MRel.own_some (m : MRel G M ι H) {a : Addr} (h : Own M ι a) : ∃ o, H a = some o := by
  obtain ⟨n, o, h1, h2⟩ := h
  obtain ⟨b, h3, h4⟩ := m.obj n o h1
  rw [h2] at h3
  cases h3
  cases o with
  | lst ps => obtain ⟨vs, e, _⟩ := h4; exact ⟨_, e⟩
  | ins c fs => obtain ⟨_, _, _, _, _, _, _, e, _⟩ := h4; exact ⟨_, e⟩
  | dct kvs => obtain ⟨vs, e, _⟩ := h4; exact ⟨_, e⟩
theorem MRel.not_own (m : MRel G M ι H) {a : Addr} (h : H a = none) : ¬ Own M ι a := fun z => by
  obtain ⟨o, e⟩ := m.own_some z
  rw [h] at e; cases e
theorem MRel.own_kind (m : MRel G M ι H) {a : Addr} (h : Own M ι a) : ∀ o, H a = some o → (∀ ps, o ≠ .tbl ps) ∧ ∀ F, o ≠ .ext F := by
  intro o e
  obtain ⟨n, u, h1, h2⟩ := h
  obtain ⟨b, h3, h4⟩ := m.obj n u h1
  rw [h2] at h3
  cases h3
  cases u with
  | lst ps => obtain ⟨vs, e', _⟩ := h4; rw [e] at e'; cases e'; exact ⟨nofun, nofun⟩
  | ins c fs => obtain ⟨_, _, _, _, _, _, _, e', _⟩ := h4; rw [e] at e'; cases e'; exact ⟨nofun, nofun⟩
  | dct kvs => obtain ⟨vs, e', _⟩ := h4; rw [e] at e'; cases e'; exact ⟨nofun, nofun⟩
/-- an object that is no table is written, or a new one is laid -/
theorem tabs_upd {T : List (Addr × Str)} {a : Addr} {w : HO} (t : LamX.Tabs T H) (hn : ∀ o, H a = some o → (∀ ps, o ≠ .tbl ps) ∧ ∀ F, o ≠ .ext F) : LamX.Tabs T (upd H a w) := fun p hp => by
  obtain ⟨ps, h1, h2, h3⟩ := t p hp
  have ne : ∀ {b : Addr} {o : HO}, H b = some o → ((∃ ps, o = .tbl ps) ∨ ∃ F, o = .ext F) → upd H a w b = some o := fun {b o} e k => by
    rw [upd_ne]
    · exact e
    · intro z
      subst z
      obtain ⟨k1, k2⟩ := hn o e
      rcases k with ⟨ps, k⟩ | ⟨F, k⟩
      · exact k1 _ k
      · exact k2 _ k
  refine ⟨ps, ne h1 (.inl ⟨_, rfl⟩), h2, fun pos cv hc => ?_⟩
  obtain ⟨c, e1, e2⟩ := h3 pos cv hc
  exact ⟨c, e1, ne e2 (.inr ⟨_, rfl⟩)⟩
theorem none_kind {a : Addr} (h : H a = none) : ∀ o, H a = some o → (∀ ps, o ≠ .tbl ps) ∧ ∀ F, o ≠ .ext F := fun o e => by rw [h] at e; cases e
/-- the script's place stays -/
theorem sa_new {b p : Addr} {u : HO} (hp : H p = none) (h : ∃ o, H b = some o ∧ ∀ ps, o ≠ .tbl ps) : ∃ o, upd H p u b = some o ∧ ∀ ps, o ≠ .tbl ps := by
  obtain ⟨o, h1, h2⟩ := h
  exact ⟨o, by rw [upd_ne (ne_of_none h1 hp)]; exact h1, h2⟩
theorem sa_some {b : Addr} (h : ∃ o, H b = some o ∧ ∀ ps, o ≠ .tbl ps) : H b ≠ none := by
  obtain ⟨o, h1, _⟩ := h
  rw [h1]
  exact nofun
theorem ObRep.ext {M1 : Store} {ι1 : List Addr} {H1 : Hp} (e : Ext M ι H M1 ι1 H1) {o : SObj} {a : Addr} (r : ObRep G ι H (Own M ι) o a) (ha : H1 a = H a) : ObRep G ι1 H1 (Own M1 ι1) o a := by
  cases o with
  | lst ps => obtain ⟨vs, h1, h2, h3⟩ := r; exact ⟨vs, ha.trans h1, h2, h3.ext e⟩
  | ins c fs =>
    obtain ⟨nm, fn, C, dx, fvs, h1, h2, h3, h4, h5, h6, h7⟩ := r
    exact ⟨nm, fn, C, dx, fvs, h1, h2, ha.trans h3, h4, h5, h6, fun i f p q1 q2 => let ⟨v, q3, q4⟩ := h7 i f p q1 q2; ⟨v, q3, q4.ext e⟩⟩
  | dct kvs => obtain ⟨vs, h1, h2, h3⟩ := r; exact ⟨vs, ha.trans h1, h2, h3.ext e⟩
/-- something new is laid that is no object of the store -/
theorem Ext.new {p : Addr} {o : HO} (hp : H p = none) : Ext M ι H M ι (upd H p o) :=
  ⟨fun _ _ h => h, fun a u h _ n => ⟨by rw [upd_ne (ne_of_none h hp)]; exact h, n⟩⟩
theorem MRel.new (m : MRel G M ι H) {p : Addr} {o : HO} (hp : H p = none) : MRel G M ι (upd H p o) :=
  ⟨fun z => sa_new hp (m.sa z), m.len, m.inj, fun n u h => by
    obtain ⟨a, h1, h2⟩ := m.obj n u h
    obtain ⟨w, e⟩ := m.own_some ⟨n, u, h, h1⟩
    exact ⟨a, h1, h2.ext (Ext.new hp) (upd_ne (ne_of_none e hp))⟩, tabs_upd m.tb (none_kind hp)⟩
theorem MRel.newRp (m : MRel G M ι H) {p : Addr} {vs : List V} {ps : List PV} (hp : H p = none) (hz : ps.length ≤ sizeLine) (r : Rps G ι H (Own M ι) ps vs) : Rp G ι (upd H p (.tup vs)) (Own M ι) (.tup ps) (.ref p) :=
  .tup (.inl ⟨.inl upd_same, m.not_own hp⟩) hz (r.ext (Ext.new hp))
theorem MRel.newRl (m : MRel G M ι H) {p : Addr} {vs : List V} {ps : List PV} (hp : H p = none) (hz : ps.length ≤ sizeLine) (r : Rps G ι H (Own M ι) ps vs) : Rp G ι (upd H p (.lst vs)) (Own M ι) (.lst ps) (.ref p) :=
  .lst ⟨upd_same, m.not_own hp⟩ hz (r.ext (Ext.new hp))
end

def PostV (G : Gd) (M : Store) (ι : List Addr) (H : Hp) (Q : VK) : Option PV → Prop
  | some p => ∀ ι' H' v, MRel G M ι' H' → Ext M ι H M ι' H' → Rp G ι' H' (Own M ι') p v → Q v H'
  | none => False
section
variable {G : Gd} {M : Store} {ι : List Addr} {H : Hp} {Q : VK}
theorem PostV.now {p : PV} {v : V} (h : PostV G M ι H Q (some p)) (m : MRel G M ι H) (r : Rp G ι H (Own M ι) p v) : Q v H := h ι H v m .refl r
theorem PostV.tup {ps : List PV} {vs : List V} (h : PostV G M ι H Q (some (.tup ps))) (m : MRel G M ι H) (hz : ps.length ≤ sizeLine) (r : Rps G ι H (Own M ι) ps vs) {p : Addr} (hp : H p = none) : Q (.ref p) (upd H p (.tup vs)) :=
  h ι _ _ (m.new hp) (Ext.new hp) (m.newRp hp hz r)
theorem PostV.lst {ps : List PV} {vs : List V} (h : PostV G M ι H Q (some (.lst ps))) (m : MRel G M ι H) (hz : ps.length ≤ sizeLine) (r : Rps G ι H (Own M ι) ps vs) {p : Addr} (hp : H p = none) : Q (.ref p) (upd H p (.lst vs)) :=
  h ι _ _ (m.new hp) (Ext.new hp) (m.newRl hp hz r)
end
abbrev P1 := Store → PV → Option PV
abbrev P2 := Store → PV → PV → Option PV
abbrev PN := Store → List PV → Option PV
def LR2 (G : Gd) (f : P2) : R2 := fun x y H Q => ∃ M ι p q, MRel G M ι H ∧ Rp G ι H (Own M ι) p x ∧ Rp G ι H (Own M ι) q y ∧ PostV G M ι H Q (f M p q)
def LR1 (G : Gd) (f : P1) : V → Hp → VK → Prop := fun x H Q => ∃ M ι p, MRel G M ι H ∧ Rp G ι H (Own M ι) p x ∧ PostV G M ι H Q (f M p)
def LRN (G : Gd) (f : PN) : List V → Hp → VK → Prop := fun xs H Q => ∃ M ι ps, MRel G M ι H ∧ Rps G ι H (Own M ι) ps xs ∧ PostV G M ι H Q (f M ps)

/-! ### numbers -/
def smI (i : Int) : Bool := decide (-(2 ^ 64) < i) && decide (i < 2 ^ 64)
def mulOk (i j : Int) : Bool := smI i || smI j || decide (i.natAbs.log2 + j.natAbs.log2 < 1000000)
def divOk (j : Int) : Bool := decide (j ≠ 0) && decide (j.natAbs.log2 < 9000)
def powOk (i j : Int) : Bool := decide (0 ≤ j) && decide (j ≤ 1000000) && decide (i.natAbs < 2 ^ 64)
def repP (xs : List PV) (k : Int) : List PV := (List.replicate k.toNat xs).flatten
def repOk (xs : List PV) (k : Int) : Bool := decide (-(2 ^ 62) ≤ k) && decide (k ≤ 20001) && decide (xs.length * k.toNat ≤ 1000000)
def addP : P2 := fun _ p q => match p, q with
  | .int i, .int j => some (.int (i + j))
  | .str a, .str b => if a.length + b.length ≤ sizeLine then some (.str (a ++ b)) else none
  | .tup a, .tup b => if a.length + b.length ≤ sizeLine then some (.tup (a ++ b)) else none
  | .lst a, .lst b => if a.length + b.length ≤ sizeLine then some (.lst (a ++ b)) else none
  | _, _ => none
def subP : P2 := fun _ p q => match p, q with
  | .int i, .int j => some (.int (i - j))
  | _, _ => none
def mulP : P2 := fun _ p q => match p, q with
  | .int i, .int j => if mulOk i j = true then some (.int (i * j)) else none
  | .tup a, .int k => if repOk a k = true then some (.tup (repP a k)) else none
  | .lst a, .int k => if repOk a k = true then some (.lst (repP a k)) else none
  | _, _ => none
def divP : P2 := fun _ p q => match p, q with
  | .int i, .int j => if divOk j = true then some (.int (i.fdiv j)) else none
  | _, _ => none
def modP : P2 := fun _ p q => match p, q with
  | .int i, .int j => if j ≠ 0 then some (.int (i.fmod j)) else none
  | _, _ => none
def powP : P2 := fun _ p q => match p, q with
  | .int i, .int j => if powOk i j = true then some (.int (i ^ j.toNat)) else none
  | _, _ => none
def negP : P1 := fun _ p => match p with
  | .int i => some (.int (-i))
  | _ => none
def binP : Operator → P2
  | .Add => addP
  | .Sub => subP
  | .Mult => mulP
  | .FloorDiv => divP
  | .Mod => modP
  | .Pow => powP
  | _ => fun _ _ _ => none
section
variable {X : Cx} {G : Gd}
theorem op_fdivA : OpR X (binaryOp .FloorDiv) (rI (fun _ j => j ≠ 0 ∧ j.natAbs.log2 < 9000) fun i j => .int (i.fdiv j)) := opI fun _ _ _ _ _ _ _ hc q => PyProof.Rows.floordiv_int hc.1 q (.inl (PyProof.noPylong_of_log2 hc.2))
theorem pr_add (hK : X.K = G.K) : OpR X (binaryOp .Add) (LR2 G addP) := by
  intro pins s σ H x y v u Q I rx ry h
  obtain ⟨M, ι, p, q, m, rp, rq, post⟩ := h
  cases rp with
  | int i =>
    cases rq with
    | int j => exact op_add pins s σ H _ _ v u Q I rx ry ⟨i, j, rfl, rfl, post.now m (.int _)⟩
    | _ => exact post.elim
  | str a =>
    cases rq with
    | str b =>
      unfold addP at post
      dsimp only at post
      split at post
      · rename_i hz
        exact op_add_str pins s σ H _ _ v u Q I rx ry ⟨a, b, rfl, rfl, hz, post.now m (.str _)⟩
      · exact post.elim
    | _ => exact post.elim
  | tup ha hza ra =>
    cases rq with
    | tup hb hzb rb =>
      rename_i ps1 _ vs2 ps2
      unfold addP at post
      dsimp only at post
      split at post
      · rename_i hz
        have la := ra.length
        have lb := rb.length
        refine op_catA pins s σ H _ _ v u Q I rx ry ⟨_, _, _, _, rfl, rfl, hK ▸ ha.sq, hK ▸ hb.sq, by omega, fun e => ?_, fun e1 e2 => ?_, fun _ _ p hp => ?_⟩
        · subst e
          cases ra
          exact post.now m (.tup hb hzb rb)
        · subst e2
          cases rb
          rw [List.append_nil] at post
          exact post.now m (.tup ha hza ra)
        · exact post.tup m (by rw [List.length_append]; exact hz) (ra.append rb) hp
      · exact post.elim
    | _ => exact post.elim
  | lst ha hza ra =>
    cases rq with
    | lst hb hzb rb =>
      unfold addP at post
      dsimp only at post
      split at post
      · rename_i hz
        have la := ra.length
        have lb := rb.length
        exact op_cat pins s σ H _ _ v u Q I rx ry ⟨_, _, _, _, rfl, rfl, ha.1, hb.1, by omega, fun p hp => post.lst m (by rw [List.length_append]; exact hz) (ra.append rb) hp⟩
      · exact post.elim
    | _ => exact post.elim
  | _ => exact post.elim
theorem pr_sub : OpR X (binaryOp .Sub) (LR2 G subP) := by
  intro pins s σ H x y v u Q I rx ry h
  obtain ⟨M, ι, p, q, m, rp, rq, post⟩ := h
  cases rp with
  | int i =>
    cases rq with
    | int j => exact op_sub pins s σ H _ _ v u Q I rx ry ⟨i, j, rfl, rfl, post.now m (.int _)⟩
    | _ => exact post.elim
  | _ => exact post.elim
theorem pr_div : OpR X (binaryOp .FloorDiv) (LR2 G divP) := by
  intro pins s σ H x y v u Q I rx ry h
  obtain ⟨M, ι, p, q, m, rp, rq, post⟩ := h
  cases rp with
  | int i =>
    cases rq with
    | int j =>
      unfold divP at post
      dsimp only at post
      split at post
      · rename_i hz
        simp only [divOk, Bool.and_eq_true, decide_eq_true_eq] at hz
        exact op_fdivA pins s σ H _ _ v u Q I rx ry ⟨i, j, rfl, rfl, hz, post.now m (.int _)⟩
      · exact post.elim
    | _ => exact post.elim
  | _ => exact post.elim
theorem pr_mod : OpR X (binaryOp .Mod) (LR2 G modP) := by
  intro pins s σ H x y v u Q I rx ry h
  obtain ⟨M, ι, p, q, m, rp, rq, post⟩ := h
  cases rp with
  | int i =>
    cases rq with
    | int j =>
      unfold modP at post
      dsimp only at post
      split at post
      · rename_i hz
        exact op_modN pins s σ H _ _ v u Q I rx ry ⟨i, j, rfl, rfl, hz, post.now m (.int _)⟩
      · exact post.elim
    | _ => exact post.elim
  | _ => exact post.elim
theorem pr_pow : OpR X (binaryOp .Pow) (LR2 G powP) := by
  intro pins s σ H x y v u Q I rx ry h
  obtain ⟨M, ι, p, q, m, rp, rq, post⟩ := h
  cases rp with
  | int i =>
    cases rq with
    | int j =>
      unfold powP at post
      dsimp only at post
      split at post
      · rename_i hz
        simp only [powOk, Bool.and_eq_true, decide_eq_true_eq] at hz
        exact op_pow pins s σ H _ _ v u Q I rx ry ⟨i, j, rfl, rfl, ⟨hz.1.1, hz.1.2, hz.2⟩, post.now m (.int _)⟩
      · exact post.elim
    | _ => exact post.elim
  | _ => exact post.elim
theorem pr_neg : UnR X (unaryOp .USub) (LR1 G negP) := by
  intro pins s σ H x v Q I rx h
  obtain ⟨M, ι, p, m, rp, post⟩ := h
  cases rp with
  | int i => exact un_neg pins s σ H _ v Q I rx ⟨i, rfl, post.now m (.int _)⟩
  | _ => exact post.elim
end
end DI
set_option maxHeartbeats 2000000
namespace L2
open PySem PySem.Spec PyProof.Rows
theorem tuple_mulSame (l : Addr) (items : Array Value) (n : Nat) (dd : Option Addr) (sl : Array (Option Value)) (x : Int) (u : Tok) (c0 : (decide (x < -(2 ^ 63)) || decide (x ≥ 2 ^ 63)) = false) (c1 : (items.isEmpty || x == 1) = true) :
    Meets (Builtin.«tuple.__mul__» ⟨[.ref l, .int x u], []⟩) (fun _ R s => s.heap.get? l = some { cls := .type "tuple", dict := dd, data := .seq items n, slots := sl } ∧ R (.ok (.ret (Value.ref l))) s) :=
  .of_wp fun prog w A R s h => by
    obtain ⟨hp, g, d, tk, os⟩ := s
    obtain ⟨hl, h⟩ := h
    have f1 := AutoSeq1.idx_int
    wp_walk using wpAny_loadPart' hl
    repeat (first
      | (refine wpAny_ite_false (decide_eq_false (by rw [c0]; exact Bool.false_ne_true)) ?_; wp_walk using wpAny_loadPart' hl)
      | (refine wpAny_ite_true (decide_eq_true c1) ?_; wp_walk using wpAny_loadPart' hl))
    exact ⟨_, rfl, h⟩
theorem tuple_mulNone (l : Addr) (items : Array Value) (n : Nat) (dd : Option Addr) (sl : Array (Option Value)) (x : Int) (u : Tok) (c0 : (decide (x < -(2 ^ 63)) || decide (x ≥ 2 ^ 63)) = false) (c1 : (items.isEmpty || x == 1) = false) (c2 : (decide (x ≤ 0) || items.isEmpty) = true) :
    Meets (Builtin.«tuple.__mul__» ⟨[.ref l, .int x u], []⟩) (fun _ R s => s.heap.get? l = some { cls := .type "tuple", dict := dd, data := .seq items n, slots := sl } ∧
      R (.ok (.ret (Value.ref s.heap.objs.size))) { s with heap := s.heap.push { cls := Value.type "tuple", data := Data.seq #[] }, toks := s.toks }) :=
  .of_wp fun prog w A R s h => by
    obtain ⟨hp, g, d, tk, os⟩ := s
    obtain ⟨hl, h⟩ := h
    have f1 := AutoSeq1.idx_int
    wp_walk using wpAny_loadPart' hl
    repeat (first
      | (refine wpAny_ite_false (decide_eq_false (by rw [c0]; exact Bool.false_ne_true)) ?_; wp_walk using wpAny_loadPart' hl)
      | (refine wpAny_ite_false (decide_eq_false (by rw [c1]; exact Bool.false_ne_true)) ?_; wp_walk using wpAny_loadPart' hl)
      | (refine wpAny_ite_true (decide_eq_true c2) ?_; wp_walk using wpAny_loadPart' hl))
    exact ⟨_, rfl, h⟩
def rRepA (K : PySem.W.Frag) : R2 := fun x y H Q => ∃ l k xs, x = .ref l ∧ y = .int k ∧ SqT K H l xs ∧ -(2 ^ 62) ≤ k ∧ k ≤ 20001 ∧ xs.length * k.toNat ≤ 1000000 ∧
  (xs = [] ∨ k = 1 → Q (.ref l) H) ∧ ∀ p, H p = none → Q (.ref p) (upd H p (.tup (List.replicate k.toNat xs).flatten))
section
variable {X : Cx}
theorem op_repA : OpR X (binaryOp .Mult) (rRepA X.K) := by
  intro pins s σ H x y v u Q I rx ry h
  obtain ⟨l, k, xs, rfl, rfl, hT, k1, k2, hz, q0, q⟩ := h
  cases rx
  obtain ⟨t, rfl⟩ := ry
  obtain ⟨its, r, ⟨⟨cls, dd, data, sl⟩, ho, hc, n, hd⟩, hs⟩ := I.tuple hT
  simp only at hc hd
  subst hc hd
  have hle : its.length = xs.length := r.length.symm
  have c0 : (decide (k < -(2 ^ 63)) || decide (k ≥ 2 ^ 63)) = false := by
    rw [decide_eq_false (by omega), decide_eq_false (by omega)] <;> rfl
  by_cases hsame : its = [] ∨ k = 1
  · have c1 : (its.toArray.isEmpty || k == 1) = true := by
      rcases hsame with e | e
      · subst e; rfl
      · subst e; simp
    have hq : Q (.ref l) H := q0 (hsame.elim (fun e => .inl (by
      rw [e] at hle
      exact List.eq_nil_of_length_eq_zero hle.symm)) .inr)
    exact wpAny_binaryOp_repeat_ref (T := "tuple") (U := "int") (by decide) ⟨_, ho, rfl⟩ (fun s' => typeIs_int s' k t) noFill_tuple_mul F.fills_int_mul F.slot_int_rmul repeat_tuple F.slot_int_index.lookup
      (call_meets F.slot_int_rmul (typeIs_int s k t) F.entry_int_rmul (F.args_int_rmul_2 _ _) (int_rmul_tuple k t l its.toArray n dd sl)
        ⟨ho, rfl, ⟨_, ho, rfl⟩, call_meets F.slot_tuple_mul ⟨_, ho, rfl⟩ F.entry_tuple_mul (F.args_tuple_mul_2 _ _) (tuple_mulSame l its.toArray n dd sl k t c0 c1) ⟨ho, ⟨.ref l, H, I, rfl, hq⟩⟩⟩)
  · have hn : its ≠ [] := fun e => hsame (.inl e)
    have hk1 : k ≠ 1 := fun e => hsame (.inr e)
    have hi : its.toArray.isEmpty = false := by
      cases its with
      | nil => exact absurd rfl hn
      | cons a b => rfl
    have c1 : (its.toArray.isEmpty || k == 1) = false := by
      rw [hi, Bool.false_or]
      exact beq_eq_false_iff_ne.mpr hk1
    by_cases hk : k ≤ 0
    · have c2 : (decide (k ≤ 0) || its.toArray.isEmpty) = true := by rw [decide_eq_true hk, Bool.true_or]
      have e0 : k.toNat = 0 := by omega
      refine wpAny_binaryOp_repeat_ref (T := "tuple") (U := "int") (by decide) ⟨_, ho, rfl⟩ (fun s' => typeIs_int s' k t) noFill_tuple_mul F.fills_int_mul F.slot_int_rmul repeat_tuple F.slot_int_index.lookup
        (call_meets F.slot_int_rmul (typeIs_int s k t) F.entry_int_rmul (F.args_int_rmul_2 _ _) (int_rmul_tuple k t l its.toArray n dd sl)
          ⟨ho, rfl, ⟨_, ho, rfl⟩, call_meets F.slot_tuple_mul ⟨_, ho, rfl⟩ F.entry_tuple_mul (F.args_tuple_mul_2 _ _) (tuple_mulNone l its.toArray n dd sl k t c0 c1 c2) ⟨ho, ?_⟩⟩)
      have q' := q _ (I.hok.fresh (Nat.le_refl _))
      rw [e0] at q'
      refine ⟨.ref s.heap.objs.size, _, I.laid (t' := s.toks) (o := .tup []) (fun b ob q => Heap.get?_push_of_some _ q) (Nat.le_refl _) ?_, rfl, q'⟩
      exact ⟨Nat.zero_le _, [], .nil, IsTup.new _ _⟩
    · have hsz0 : its.toArray.size = xs.length := by rw [List.size_toArray, hle]
      have hm : ((its.toArray.size : Nat) : Int) * k ≤ 1000000 := by
        rw [hsz0]
        have e : k = (k.toNat : Int) := by omega
        rw [e, ← Int.natCast_mul]
        exact Int.ofNat_le.mpr hz
      have flen : (List.replicate k.toNat its).flatten.length ≤ sizeLine := by
        rw [PyProof.Rows.lm_len_rep_flat, hle, sizeLine_eq, Nat.mul_comm]
        omega
      have c2 : (decide (k ≤ 0) || its.toArray.isEmpty) = false := by
        rw [hi, Bool.or_false]
        exact decide_eq_false hk
      have c4 : Builtin.Tuple.tupleTooMany (((its.toArray.size : Nat) : Int) * k) = false := by
        unfold Builtin.Tuple.tupleTooMany
        rw [sizeLine_eq]
        exact decide_eq_false (by omega)
      refine wpAny_binaryOp_repeat_ref (T := "tuple") (U := "int") (by decide) ⟨_, ho, rfl⟩ (fun s' => typeIs_int s' k t) noFill_tuple_mul F.fills_int_mul F.slot_int_rmul repeat_tuple F.slot_int_index.lookup
        (call_meets F.slot_int_rmul (typeIs_int s k t) F.entry_int_rmul (F.args_int_rmul_2 _ _) (int_rmul_tuple k t l its.toArray n dd sl)
          ⟨ho, rfl, ⟨_, ho, rfl⟩, call_meets F.slot_tuple_mul ⟨_, ho, rfl⟩ F.entry_tuple_mul (F.args_tuple_mul_2 _ _) (tuple_mulW l its.toArray n dd sl k t c0 c1 c2 (by omega) c4 (by rw [size_rep, List.size_toArray]; exact flen)) ⟨ho, ?_⟩⟩)
      rw [size_rep]
      refine ⟨.ref s.heap.objs.size, _, I.laid (t' := s.toks) (o := .tup (List.replicate k.toNat xs).flatten) (fun b ob q => Heap.get?_push_of_some _ q) (Nat.le_refl _) ?_, rfl, q _ (I.hok.fresh (Nat.le_refl _))⟩
      exact ⟨by rw [PyProof.Rows.lm_len_rep_flat, sizeLine_eq, Nat.mul_comm]; omega, _, r.rep k.toNat, IsTup.new _ _⟩
end
end L2
namespace DI
open PySem PySem.Spec L2
theorem Rps.rep {G : Gd} {ι : List Addr} {H : Hp} {O : Addr → Prop} {ps : List PV} {vs : List V} (r : Rps G ι H O ps vs) : ∀ n : Nat, Rps G ι H O (List.replicate n ps).flatten (List.replicate n vs).flatten
  | 0 => .nil
  | n + 1 => by
    rw [List.replicate_succ, List.replicate_succ, List.flatten_cons, List.flatten_cons]
    exact r.append (r.rep n)
theorem repP_len (xs : List PV) (k : Int) : (repP xs k).length = xs.length * k.toNat := by
  unfold repP
  rw [PyProof.Rows.lm_len_rep_flat, Nat.mul_comm]
theorem pr_mul {X : Cx} {G : Gd} (hK : X.K = G.K) : OpR X (binaryOp .Mult) (LR2 G mulP) := by
  intro pins s σ H x y v u Q I rx ry h
  obtain ⟨M, ι, p, q, m, rp, rq, post⟩ := h
  cases rp with
  | int i =>
    cases rq with
    | int j =>
      unfold mulP at post
      dsimp only at post
      split at post
      · rename_i hz
        simp only [mulOk, smI, Bool.or_eq_true, Bool.and_eq_true, decide_eq_true_eq] at hz
        rcases hz with (hz | hz) | hz
        · exact op_mul pins s σ H _ _ v u Q I rx ry ⟨i, j, rfl, rfl, .inl hz, post.now m (.int _)⟩
        · exact op_mul pins s σ H _ _ v u Q I rx ry ⟨i, j, rfl, rfl, .inr hz, post.now m (.int _)⟩
        · exact op_mulW pins s σ H _ _ v u Q I rx ry ⟨i, j, rfl, rfl, hz, post.now m (.int _)⟩
      · exact post.elim
    | _ => exact post.elim
  | tup ha hza ra =>
    rename_i a0 vs0 ps0
    cases rq with
    | int k =>
      unfold mulP at post
      dsimp only at post
      split at post
      · rename_i hz
        simp only [repOk, Bool.and_eq_true, decide_eq_true_eq] at hz
        have la := ra.length
        refine op_repA pins s σ H _ _ v u Q I rx ry ⟨_, k, _, rfl, rfl, hK ▸ ha.sq, hz.1.1, hz.1.2, by rw [← la]; exact hz.2, fun e => ?_, fun p hp => ?_⟩
        · have e2 : repP ps0 k = ps0 := by
            rcases e with e | e
            · subst e
              cases ra
              show repP [] k = []
              unfold repP
              exact List.eq_nil_of_length_eq_zero (by rw [PyProof.Rows.lm_len_rep_flat]; rfl)
            · subst e
              exact List.append_nil _
          rw [e2] at post
          exact post.now m (.tup ha hza ra)
        · exact post.tup m (by rw [repP_len, sizeLine_eq]; omega) (ra.rep k.toNat) hp
      · exact post.elim
    | _ => exact post.elim
  | lst ha hza ra =>
    cases rq with
    | int k =>
      unfold mulP at post
      dsimp only at post
      split at post
      · rename_i hz
        simp only [repOk, Bool.and_eq_true, decide_eq_true_eq] at hz
        have la := ra.length
        exact op_rep pins s σ H _ _ v u Q I rx ry ⟨_, k, _, rfl, rfl, ha.1, by omega, by omega, by rw [← la, sizeLine_eq]; omega, fun p hp => post.lst m (by rw [repP_len, sizeLine_eq]; omega) (ra.rep k.toNat) hp⟩
      · exact post.elim
    | _ => exact post.elim
  | _ => exact post.elim
end DI
set_option maxHeartbeats 2000000
/-! # DI: comparisons -/
namespace DI
open PySem PySem.Spec L2
mutual
/-- plain data -/
def dat : PV → Option PyData
  | .non => some .none
  | .bl b => some (.bool b)
  | .int i => some (.int i)
  | .str s => some (.str s)
  | .tup xs => (dats xs).map .tuple
  | .lst xs => (dats xs).map .list
  | .ref _ => none
  | .fn _ => none
  | .ty _ => none
  | .scr _ => none
def dats : List PV → Option (List PyData)
  | [] => some []
  | x :: xs => match dat x, dats xs with
    | some d, some ds => some (d :: ds)
    | _, _ => none
end
/-- .. a list of the store's too -/
def datM (M : Store) : PV → Option PyData
  | .ref n => match M[n]? with
    | some (some (.lst xs)) => (dats xs).map .list
    | _ => none
  | p => dat p
section
variable {G : Gd} {ι : List Addr} {H : Hp} {O : Addr → Prop}
mutual
theorem Rp.dp : ∀ (p : PV) (v : V) (d : PyData), Rp G ι H O p v → dat p = some d → Dp G.K H v d
  | .non, _, _, r, e => by cases r; cases e; exact .non
  | .bl b, _, _, r, e => by cases r; cases e; exact .bl b
  | .int i, _, _, r, e => by cases r; cases e; exact .int i
  | .str s, _, _, r, e => by cases r; cases e; exact .str s
  | .tup ps, _, _, r, e => by
    cases r with
    | tup h1 h2 h3 =>
      unfold dat at e
      cases e2 : dats ps with
      | none => rw [e2] at e; cases e
      | some ds =>
        rw [e2] at e
        cases e
        exact .tup h1.sq (Rps.dp ps _ ds h3 e2)
  | .lst ps, _, _, r, e => by
    cases r with
    | lst h1 h2 h3 =>
      unfold dat at e
      cases e2 : dats ps with
      | none => rw [e2] at e; cases e
      | some ds =>
        rw [e2] at e
        cases e
        exact .lst h1.sq (Rps.dp ps _ ds h3 e2)
  | .ref _, _, _, _, e => by unfold dat at e; cases e
  | .fn _, _, _, _, e => by unfold dat at e; cases e
  | .ty _, _, _, _, e => by unfold dat at e; cases e
  | .scr _, _, _, _, e => by unfold dat at e; cases e
theorem Rps.dp : ∀ (ps : List PV) (vs : List V) (ds : List PyData), Rps G ι H O ps vs → dats ps = some ds → DpAll G.K H vs ds
  | [], _, _, r, e => by
    cases r
    unfold dats at e
    cases e
    exact .nil
  | p :: ps, _, _, r, e => by
    cases r with
    | cons r1 r2 =>
      unfold dats at e
      cases e1 : dat p with
      | none => rw [e1] at e; cases e
      | some d =>
        cases e2 : dats ps with
        | none => rw [e1, e2] at e; cases e
        | some ds =>
          rw [e1, e2] at e
          cases e
          exact .cons (Rp.dp p _ d r1 e1) (Rps.dp ps _ ds r2 e2)
end
end
theorem MRel.dp {G : Gd} {M : Store} {ι : List Addr} {H : Hp} (m : MRel G M ι H) {p : PV} {v : V} {d : PyData} (r : Rp G ι H (Own M ι) p v) (e : datM M p = some d) : Dp G.K H v d := by
  cases p with
  | ref n =>
    cases r with
    | ref h1 =>
      unfold datM at e
      dsimp only at e
      split at e
      · rename_i xs hx
        cases e2 : dats xs with
        | none => rw [e2] at e; cases e
        | some ds =>
          rw [e2] at e
          cases e
          obtain ⟨a, h3, vs, h4, _, h5⟩ := m.obj n _ hx
          rw [h1] at h3
          cases h3
          exact .lst (SqL.of h4) (Rps.dp xs _ ds h5 e2)
      · cases e
  | _ => exact Rp.dp _ _ d r e
/-- == and != -/
def eqP : P2 := fun M p q => match datM M p, datM M q with
  | some d, some e => if (SeqAt.shaped d && SeqAt.shaped e) = true then some (.bl (PyData.eqv d e)) else none
  | _, _ => none
def neP : P2 := fun M p q => match datM M p, datM M q with
  | some d, some e => if (SeqAt.shaped d && SeqAt.shaped e) = true then some (.bl (!PyData.eqv d e)) else none
  | _, _ => none
def ltP : P2 := fun _ p q => match p, q with
  | .int i, .int j => some (.bl (decide (i < j)))
  | _, _ => none
def leP : P2 := fun _ p q => match p, q with
  | .int i, .int j => some (.bl (decide (i ≤ j)))
  | _, _ => none
def gtP : P2 := fun _ p q => match p, q with
  | .int i, .int j => some (.bl (decide (j < i)))
  | _, _ => none
def geP : P2 := fun _ p q => match p, q with
  | .int i, .int j => some (.bl (decide (j ≤ i)))
  | _, _ => none
def isNon : PV → Bool
  | .non => true
  | _ => false
/-- what may stand ahead of 'is None': anything; of 'is True': a truth -/
def isP : P2 := fun _ p q => match q with
  | .non => some (.bl (isNon p))
  | .bl c => match p with
    | .bl b => some (.bl (b == c))
    | _ => none
  | _ => none
def isNotP : P2 := fun _ p q => match q with
  | .non => some (.bl (!isNon p))
  | .bl c => match p with
    | .bl b => some (.bl (!(b == c)))
    | _ => none
  | _ => none
/-- in, not in -/
def inP : P2 := fun M p q => match q with
  | .str z => match p with
    | .str c => some (.bl (!(Builtin.Str.occurrences z c 0 z.length 1).isEmpty))
    | _ => none
  | .tup _ => match dat p, dat q with
    | some d, some (.tuple ds) => if (SeqAt.shaped d && SeqAt.shaped (.list ds)) = true then some (.bl (ds.any fun z => PyData.eqv z d)) else none
    | _, _ => none
  | _ => match dat p, datM M q with
    | some d, some (.list ds) => if (SeqAt.shaped d && SeqAt.shaped (.list ds)) = true then some (.bl (ds.any fun z => PyData.eqv z d)) else none
    | _, _ => none
def notInP : P2 := fun M p q => match inP M p q with
  | some (.bl b) => some (.bl (!b))
  | _ => none
def cmpP : CmpOp → P2
  | .Eq => eqP
  | .NotEq => neP
  | .Lt => ltP
  | .LtE => leP
  | .Gt => gtP
  | .GtE => geP
  | .Is => isP
  | .IsNot => isNotP
  | .In => inP
  | .NotIn => notInP
section
variable {X : Cx} {G : Gd}
theorem pr_eq (hK : X.K = G.K) (hu : X.A.units + 64 < cLine) : OpR X (compareOp .Eq) (LR2 G eqP) := by
  intro pins s σ H x y v u Q I rx ry h
  obtain ⟨M, ι, p, q, m, rp, rq, post⟩ := h
  unfold eqP at post
  split at post
  · rename_i d e hd he
    split at post
    · rename_i hs
      obtain ⟨s1, s2⟩ := Bool.and_eq_true_iff.mp hs
      exact op_eqD hu pins s σ H x y v u Q I rx ry ⟨d, e, hK ▸ m.dp rp hd, hK ▸ m.dp rq he, s1, s2, post.now m (.bl _)⟩
    · exact post.elim
  · exact post.elim
theorem pr_ne (hK : X.K = G.K) (hu : X.A.units + 64 < cLine) : OpR X (compareOp .NotEq) (LR2 G neP) := by
  intro pins s σ H x y v u Q I rx ry h
  obtain ⟨M, ι, p, q, m, rp, rq, post⟩ := h
  unfold neP at post
  split at post
  · rename_i d e hd he
    split at post
    · rename_i hs
      obtain ⟨s1, s2⟩ := Bool.and_eq_true_iff.mp hs
      exact op_neD hu pins s σ H x y v u Q I rx ry ⟨d, e, hK ▸ m.dp rp hd, hK ▸ m.dp rq he, s1, s2, post.now m (.bl _)⟩
    · exact post.elim
  · exact post.elim
theorem pr_int {op : CmpOp} {f : P2} {g : Int → Int → Bool} (h0 : OpR X (compareOp op) (rI0 fun i j => .bl (g i j))) (h1 : ∀ M p q r, f M p q = some r → ∃ i j, p = .int i ∧ q = .int j ∧ r = .bl (g i j)) : OpR X (compareOp op) (LR2 G f) := by
  intro pins s σ H x y v u Q I rx ry h
  obtain ⟨M, ι, p, q, m, rp, rq, post⟩ := h
  cases e : f M p q with
  | none => rw [e] at post; exact post.elim
  | some r =>
    obtain ⟨i, j, rfl, rfl, rfl⟩ := h1 M p q r e
    rw [e] at post
    cases rp
    cases rq
    exact h0 pins s σ H _ _ v u Q I rx ry ⟨i, j, rfl, rfl, post.now m (.bl _)⟩
theorem int2 {g : Int → Int → Bool} {p q r : PV} (e : (match p, q with | .int i, .int j => some (PV.bl (g i j)) | _, _ => none) = some r) : ∃ i j, p = .int i ∧ q = .int j ∧ r = .bl (g i j) := by
  split at e
  · cases e; exact ⟨_, _, rfl, rfl, rfl⟩
  · cases e
theorem pr_lt : OpR X (compareOp .Lt) (LR2 G ltP) := pr_int (g := fun i j => decide (i < j)) op_lt fun M p q r e => int2 (by unfold ltP at e; exact e)
theorem pr_le : OpR X (compareOp .LtE) (LR2 G leP) := pr_int (g := fun i j => decide (i ≤ j)) op_le fun M p q r e => int2 (by unfold leP at e; exact e)
theorem pr_gt : OpR X (compareOp .Gt) (LR2 G gtP) := pr_int (g := fun i j => decide (j < i)) op_gt fun M p q r e => int2 (by unfold gtP at e; exact e)
theorem pr_ge : OpR X (compareOp .GtE) (LR2 G geP) := pr_int (g := fun i j => decide (j ≤ i)) op_ge fun M p q r e => int2 (by unfold geP at e; exact e)
theorem Rp.isNon {ι : List Addr} {H : Hp} {O : Addr → Prop} {p : PV} {v : V} (r : Rp G ι H O p v) : DI.isNon p = decide (v = .non) := by
  cases r <;> first | rfl | (symm; apply decide_eq_false; intro e; cases e)
theorem pr_is : OpR X (compareOp .Is) (LR2 G isP) := by
  intro pins s σ H x y v u Q I rx ry h
  obtain ⟨M, ι, p, q, m, rp, rq, post⟩ := h
  unfold isP at post
  split at post
  · cases rq
    refine op_isN pins s σ H x .non v u Q I rx ry ⟨rfl, ?_⟩
    rw [← rp.isNon]
    exact post.now m (.bl _)
  · rename_i c
    cases rq
    split at post
    · rename_i b
      cases rp
      exact op_isBl pins s σ H _ _ v u Q I rx ry ⟨b, c, rfl, rfl, post.now m (.bl _)⟩
    · exact post.elim
  · exact post.elim
end
end DI
set_option maxHeartbeats 2000000
/-! # DI: more comparisons, subscripts, slices, built-in functions -/
namespace DI
open PySem PySem.Spec L2
section
variable {X : Cx} {G : Gd}
theorem pr_isNot : OpR X (compareOp .IsNot) (LR2 G isNotP) := by
  intro pins s σ H x y v u Q I rx ry h
  obtain ⟨M, ι, p, q, m, rp, rq, post⟩ := h
  unfold isNotP at post
  split at post
  · cases rq
    refine op_notN pins s σ H x .non v u Q I rx ry ⟨rfl, ?_⟩
    rw [← rp.isNon]
    exact post.now m (.bl _)
  · rename_i c
    cases rq
    split at post
    · rename_i b
      cases rp
      exact op_notBl pins s σ H _ _ v u Q I rx ry ⟨b, c, rfl, rfl, post.now m (.bl _)⟩
    · exact post.elim
  · exact post.elim
def rInTD (K : PySem.W.Frag) (neg : Bool) : R2 := fun x y H Q => ∃ d ds, Dp K H x d ∧ Dp K H y (.tuple ds) ∧ SeqAt.shaped d = true ∧ SeqAt.shaped (.list ds) = true ∧ Q (.bl (if neg then !(ds.any fun z => PyData.eqv z d) else ds.any fun z => PyData.eqv z d)) H
theorem op_inTD (hu : X.A.units + 65 < cLine) : OpR X (compareOp .In) (rInTD X.K false) := by
  intro pins s σ H x y v u Q I rx ry h
  obtain ⟨d, ds, hd, he, sd, se, q⟩ := h
  obtain ⟨as, r1⟩ := Dp.reads I d x v hd rx
  obtain ⟨bs, r2⟩ := Dp.reads I (.tuple ds) y u he ry
  exact SeqAt.in_tuple_reads r2 r1 (SeqAt.canLay_of_shaped se) (SeqAt.canLay_of_shaped sd) (PyProof.Rows.room_in_shaped sd hu) ⟨.bl _, H, I, rfl, q⟩
theorem op_notInTD (hu : X.A.units + 65 < cLine) : OpR X (compareOp .NotIn) (rInTD X.K true) := by
  intro pins s σ H x y v u Q I rx ry h
  obtain ⟨d, ds, hd, he, sd, se, q⟩ := h
  obtain ⟨as, r1⟩ := Dp.reads I d x v hd rx
  obtain ⟨bs, r2⟩ := Dp.reads I (.tuple ds) y u he ry
  exact SeqAt.notIn_tuple_reads r2 r1 (SeqAt.canLay_of_shaped se) (SeqAt.canLay_of_shaped sd) (PyProof.Rows.room_in_shaped sd hu) ⟨.bl _, H, I, rfl, q⟩
theorem inP_cases {M : Store} {p q r : PV} (e : inP M p q = some r) :
    (∃ c z, p = .str c ∧ q = .str z ∧ r = .bl (!(Builtin.Str.occurrences z c 0 z.length 1).isEmpty)) ∨
    (∃ d ds, dat p = some d ∧ dat q = some (.tuple ds) ∧ SeqAt.shaped d = true ∧ SeqAt.shaped (.list ds) = true ∧ r = .bl (ds.any fun z => PyData.eqv z d)) ∨
    (∃ d ds, dat p = some d ∧ datM M q = some (.list ds) ∧ SeqAt.shaped d = true ∧ SeqAt.shaped (.list ds) = true ∧ r = .bl (ds.any fun z => PyData.eqv z d)) := by
  unfold inP at e
  split at e
  · split at e
    · cases e; exact .inl ⟨_, _, rfl, rfl, rfl⟩
    · cases e
  · split at e
    · rename_i h1 h2
      split at e
      · rename_i hs
        obtain ⟨s1, s2⟩ := Bool.and_eq_true_iff.mp hs
        cases e
        exact .inr (.inl ⟨_, _, h1, h2, s1, s2, rfl⟩)
      · cases e
    · cases e
  · split at e
    · rename_i h1 h2
      split at e
      · rename_i hs
        obtain ⟨s1, s2⟩ := Bool.and_eq_true_iff.mp hs
        cases e
        exact .inr (.inr ⟨_, _, h1, h2, s1, s2, rfl⟩)
      · cases e
    · cases e
theorem pr_in (hK : X.K = G.K) (hu : X.A.units + 65 < cLine) : OpR X (compareOp .In) (LR2 G inP) := by
  intro pins s σ H x y v u Q I rx ry h
  obtain ⟨M, ι, p, q, m, rp, rq, post⟩ := h
  cases e : inP M p q with
  | none => rw [e] at post; exact post.elim
  | some r =>
    rw [e] at post
    rcases inP_cases e with ⟨c, z, rfl, rfl, rfl⟩ | ⟨d, ds, h1, h2, s1, s2, rfl⟩ | ⟨d, ds, h1, h2, s1, s2, rfl⟩
    · cases rp
      cases rq
      exact op_in_str pins s σ H _ _ v u Q I rx ry ⟨c, z, rfl, rfl, post.now m (.bl _)⟩
    · exact op_inTD hu pins s σ H x y v u Q I rx ry ⟨d, ds, hK ▸ Rp.dp _ _ _ rp h1, hK ▸ Rp.dp _ _ _ rq h2, s1, s2, post.now m (.bl _)⟩
    · exact op_inD hu pins s σ H x y v u Q I rx ry ⟨d, ds, hK ▸ Rp.dp _ _ _ rp h1, hK ▸ m.dp rq h2, s1, s2, post.now m (.bl _)⟩
theorem pr_notIn (hK : X.K = G.K) (hu : X.A.units + 65 < cLine) : OpR X (compareOp .NotIn) (LR2 G notInP) := by
  intro pins s σ H x y v u Q I rx ry h
  obtain ⟨M, ι, p, q, m, rp, rq, post⟩ := h
  unfold notInP at post
  cases e : inP M p q with
  | none => rw [e] at post; exact post.elim
  | some r =>
    rw [e] at post
    rcases inP_cases e with ⟨c, z, rfl, rfl, rfl⟩ | ⟨d, ds, h1, h2, s1, s2, rfl⟩ | ⟨d, ds, h1, h2, s1, s2, rfl⟩
    · cases rp
      cases rq
      exact op_notin_str pins s σ H _ _ v u Q I rx ry ⟨c, z, rfl, rfl, post.now m (.bl _)⟩
    · exact op_notInTD hu pins s σ H x y v u Q I rx ry ⟨d, ds, hK ▸ Rp.dp _ _ _ rp h1, hK ▸ Rp.dp _ _ _ rq h2, s1, s2, post.now m (.bl _)⟩
    · exact op_notInD hu pins s σ H x y v u Q I rx ry ⟨d, ds, hK ▸ Rp.dp _ _ _ rp h1, hK ▸ m.dp rq h2, s1, s2, post.now m (.bl _)⟩
theorem pr_cmp (hK : X.K = G.K) (hu : X.A.units + 65 < cLine) : ∀ op : CmpOp, OpR X (compareOp op) (LR2 G (cmpP op))
  | .Eq => pr_eq hK (by omega)
  | .NotEq => pr_ne hK (by omega)
  | .Lt => pr_lt
  | .LtE => pr_le
  | .Gt => pr_gt
  | .GtE => pr_ge
  | .Is => pr_is
  | .IsNot => pr_isNot
  | .In => pr_in hK hu
  | .NotIn => pr_notIn hK hu
theorem pr_bad {f : Value → Value → Sem Value} : OpR X f (LR2 G fun _ _ _ => none) := by
  intro pins s σ H x y v u Q I rx ry h
  obtain ⟨M, ι, p, q, m, rp, rq, post⟩ := h
  exact post.elim
theorem pr_bin (hK : X.K = G.K) : ∀ op : Operator, OpR X (binaryOp op) (LR2 G (binP op))
  | .Add => pr_add hK
  | .Sub => pr_sub
  | .Mult => pr_mul hK
  | .FloorDiv => pr_div
  | .Mod => pr_mod
  | .Pow => pr_pow
  | .MatMult => pr_bad
  | .Div => pr_bad
  | .LShift => pr_bad
  | .RShift => pr_bad
  | .BitOr => pr_bad
  | .BitXor => pr_bad
  | .BitAnd => pr_bad

/-! ### subscripts -/
/-- a list of the store, as it stands -/
def lstAt (M : Store) (n : Nat) : Option (List PV) := match M[n]? with
  | some (some (.lst xs)) => some xs
  | _ => none
theorem MRel.lstAt {M : Store} {ι : List Addr} {H : Hp} (m : MRel G M ι H) {n : Nat} {xs : List PV} {v : V} (h : DI.lstAt M n = some xs) (r : Rp G ι H (Own M ι) (.ref n) v) : ∃ a vs, v = .ref a ∧ ι[n]? = some a ∧ M[n]? = some (some (.lst xs)) ∧ H a = some (.lst vs) ∧ xs.length ≤ sizeLine ∧ Rps G ι H (Own M ι) xs vs := by
  unfold DI.lstAt at h
  split at h
  · rename_i ys hy
    cases h
    cases r with
    | ref h1 =>
      obtain ⟨a, h3, vs, h4, h5, h6⟩ := m.obj n _ hy
      rw [h1] at h3
      cases h3
      exact ⟨_, vs, rfl, h1, hy, h4, h5, h6⟩
  · cases h
def idxP : P2 := fun M p q => match q with
  | .int i => match p with
    | .tup xs => atI xs i
    | .lst xs => atI xs i
    | .ref n => match lstAt M n with
      | some xs => atI xs i
      | none => none
    | .str s => if s.length ≤ sizeLine then (atI s.cps.toList i).map fun c => .str ⟨#[c]⟩ else none
    | _ => none
  | _ => none
theorem Rps.atI {ι : List Addr} {H : Hp} {O : Addr → Prop} {ps : List PV} {vs : List V} {i : Int} {p : PV} (r : Rps G ι H O ps vs) (e : L2.atI ps i = some p) : ∃ v, L2.atI vs i = some v ∧ Rp G ι H O p v := by
  unfold L2.atI at e ⊢
  rw [← r.length]
  cases q : ixN ps.length i with
  | none => rw [q] at e; cases e
  | some j =>
    rw [q] at e
    exact r.get e
theorem pr_idx (hK : X.K = G.K) : IxR X (LR2 G idxP) := by
  intro val slc pins s σ H x y v u Q I rx ry h hs
  obtain ⟨M, ι, p, q, m, rp, rq, post⟩ := h
  unfold idxP at post
  split at post
  · rename_i i
    cases rq
    split at post
    · cases rp with
      | tup h1 h2 h3 =>
        cases e : L2.atI _ i with
        | none => rw [e] at post; exact post.elim
        | some p =>
          rw [e] at post
          obtain ⟨w, e1, r1⟩ := h3.atI e
          exact ix_tup val slc pins s σ H _ _ v u Q I rx ry ⟨_, _, i, w, rfl, rfl, hK ▸ h1.sq, e1, post.now m r1⟩ hs
    · cases rp with
      | lst h1 h2 h3 =>
        cases e : L2.atI _ i with
        | none => rw [e] at post; exact post.elim
        | some p =>
          rw [e] at post
          obtain ⟨w, e1, r1⟩ := h3.atI e
          exact ix_list val slc pins s σ H _ _ v u Q I rx ry ⟨_, _, i, w, rfl, rfl, hK ▸ h1.sq, e1, post.now m r1⟩ hs
    · split at post
      · rename_i n _ xs hx
        obtain ⟨a, vs, rfl, h1, h2, h3, h4, h5⟩ := m.lstAt hx rp
        cases e : L2.atI xs i with
        | none => rw [e] at post; exact post.elim
        | some p =>
          rw [e] at post
          obtain ⟨w, e1, r1⟩ := h5.atI e
          exact ix_list val slc pins s σ H _ _ v u Q I rx ry ⟨_, _, i, w, rfl, rfl, SqL.of h3, e1, post.now m r1⟩ hs
      · exact post.elim
    · rename_i z
      cases rp
      split at post
      · rename_i hz
        cases e : L2.atI z.cps.toList i with
        | none => rw [e] at post; exact post.elim
        | some c =>
          rw [e] at post
          exact ix_str val slc pins s σ H _ _ v u Q I rx ry ⟨z, i, c, rfl, rfl, hz, e, post.now m (.str _)⟩ hs
      · exact post.elim
    · exact post.elim
  · exact post.elim
/-! ### slices -/
def cutP (xs : List PV) (lo hi : Option Int) : List PV := (xs.drop (HT.sIx xs.length 0 lo)).take (HT.sIx xs.length xs.length hi - HT.sIx xs.length 0 lo)
def slcP (M : Store) (p : PV) (lo hi : Option Int) : Option PV := match p with
  | .tup xs => some (.tup (cutP xs lo hi))
  | .lst xs => some (.lst (cutP xs lo hi))
  | .scr ns => some (.lst (cutP (ns.map .int) lo hi))
  | .ref n => match lstAt M n with
    | some xs => some (.lst (cutP xs lo hi))
    | none => none
  | .str s => if s.length ≤ sizeLine then some (.str (cutS s lo hi)) else none
  | _ => none
def LRSl (G : Gd) : V → Option Int → Option Int → Hp → VK → Prop := fun x lo hi H Q => ∃ M ι p, MRel G M ι H ∧ Rp G ι H (Own M ι) p x ∧ PostV G M ι H Q (slcP M p lo hi)
theorem Rps.cut {ι : List Addr} {H : Hp} {O : Addr → Prop} {ps : List PV} {vs : List V} (lo hi : Option Int) (r : Rps G ι H O ps vs) : Rps G ι H O (cutP ps lo hi) (cutV vs lo hi) := by
  unfold cutP cutV
  rw [← r.length]
  exact (r.drop _).take _
theorem cutP_len (xs : List PV) (lo hi : Option Int) : (cutP xs lo hi).length ≤ xs.length := by
  unfold cutP
  rw [List.length_take, List.length_drop]
  omega
theorem Rps.ints {ι : List Addr} {H : Hp} {O : Addr → Prop} : ∀ ns : List Int, Rps G ι H O (ns.map .int) (ns.map .int)
  | [] => .nil
  | n :: ns => .cons (.int n) (Rps.ints ns)
theorem sIx_whole {n : Nat} {lo hi : Option Int} {α : Type} (xs : List α) (h : HT.sIx xs.length 0 lo = 0 ∧ HT.sIx xs.length xs.length hi = xs.length) : (xs.drop (HT.sIx xs.length 0 lo)).take (HT.sIx xs.length xs.length hi - HT.sIx xs.length 0 lo) = xs := by
  rw [h.1, h.2]
  simp
theorem pr_slc (hK : X.K = G.K) : SlR X (LRSl G) := by
  intro pins s σ H x v vl vu lo hi sl Q I rx hs pl pu h
  obtain ⟨M, ι, p, m, rp, post⟩ := h
  unfold slcP at post
  split at post
  · cases rp with
    | tup h1 h2 h3 =>
      refine sl_tupA pins s σ H _ v vl vu lo hi sl Q I rx hs pl pu ⟨_, _, rfl, hK ▸ h1.sq, fun hw => ?_, fun _ p hp => ?_⟩
      · have e := h3.length
        rw [← e] at hw
        have e2 : cutP _ lo hi = _ := sIx_whole (n := 0) _ hw
        rw [e2] at post
        exact post.now m (.tup h1 h2 h3)
      · exact post.tup m (Nat.le_trans (cutP_len _ _ _) h2) (h3.cut lo hi) hp
  · cases rp with
    | lst h1 h2 h3 => exact sl_list pins s σ H _ v vl vu lo hi sl Q I rx hs pl pu ⟨_, _, rfl, hK ▸ h1.sq, fun p hp => post.lst m (Nat.le_trans (cutP_len _ _ _) h2) (h3.cut lo hi) hp⟩
  · cases rp with
    | scr h0 h1 =>
      rename_i ns a
      obtain ⟨its, rv, _, hz⟩ := I.list (hK ▸ h1.sq)
      exact sl_list pins s σ H _ v vl vu lo hi sl Q I rx hs pl pu ⟨_, _, rfl, hK ▸ h1.sq, fun p hp => post.lst m (Nat.le_trans (cutP_len _ _ _) (by simpa using hz)) ((Rps.ints ns).cut lo hi) hp⟩
  · split at post
    · rename_i n _ xs hx
      obtain ⟨a, vs, rfl, h1, h2, h3, h4, h5⟩ := m.lstAt hx rp
      exact sl_list pins s σ H _ v vl vu lo hi sl Q I rx hs pl pu ⟨_, _, rfl, SqL.of h3, fun p hp => post.lst m (Nat.le_trans (cutP_len _ _ _) h4) (h5.cut lo hi) hp⟩
    · exact post.elim
  · rename_i z
    cases rp
    split at post
    · rename_i hz
      exact sl_str pins s σ H _ v vl vu lo hi sl Q I rx hs pl pu ⟨z, rfl, hz, post.now m (.str _)⟩
    · exact post.elim
  · exact post.elim

/-! ### built-in functions -/
/-- the built-in functions that are called by name -/
inductive BI where
  | len | abs | int | sum | all | any | tuple | list | min | max | repr | isinst
  deriving DecidableEq
def intsOf : List PV → Option (List Int)
  | [] => some []
  | .int i :: r => match intsOf r with
    | some ns => some (i :: ns)
    | none => none
  | _ => none
def blsOf : List PV → Option (List Bool)
  | [] => some []
  | .bl b :: r => match blsOf r with
    | some bs => some (b :: bs)
    | none => none
  | _ => none
/-- a list's items -/
def itemsL (M : Store) : PV → Option (List PV)
  | .lst xs => some xs
  | .ref n => lstAt M n
  | _ => none
def maxI : List Int → Int
  | [] => 0
  | x :: xs => xs.foldl (fun m y => if m < y then y else m) x
def minI : List Int → Int
  | [] => 0
  | x :: xs => xs.foldl (fun m y => if y < m then y else m) x
def tyNm (M : Store) : PV → Option String
  | .non => some "NoneType"
  | .bl _ => some "bool"
  | .int _ => some "int"
  | .str _ => some "str"
  | .tup _ => some "tuple"
  | .lst _ => some "list"
  | .ref n => match lstAt M n with
    | some _ => some "list"
    | none => none
  | _ => none
def lenP (M : Store) : PV → Option PV
  | .tup xs => some (.int xs.length)
  | .lst xs => some (.int xs.length)
  | .str s => if s.length ≤ sizeLine then some (.int s.length) else none
  | .ref n => match lstAt M n with
    | some xs => some (.int xs.length)
    | none => none
  | _ => none
def reprP (M : Store) (p : PV) : Option PV := match datM M p with
  | some d => if (d.showable && !d.hasDict && decide (d.depth ≤ 64) && decide (d.shown.length ≤ sizeLine)) = true then some (.str d.shown) else none
  | none => none
def lenF : PN := fun M ps => match ps with
  | [p] => lenP M p
  | _ => none
def absF : PN := fun _ ps => match ps with
  | [.int i] => some (.int (if i < 0 then -i else i))
  | _ => none
def intF : PN := fun _ ps => match ps with
  | [.int i] => some (.int i)
  | [.bl b] => some (.int (if b then 1 else 0))
  | _ => none
def sumF : PN := fun M ps => match ps with
  | [.tup xs] => (intsOf xs).map fun ns => .int ns.sum
  | [p] => match itemsL M p with
    | some xs => (intsOf xs).map fun ns => .int ns.sum
    | none => none
  | _ => none
def allF : PN := fun M ps => match ps with
  | [p] => match itemsL M p with
    | some xs => (blsOf xs).map fun bs => .bl (bs.all id)
    | none => none
  | _ => none
def anyF : PN := fun M ps => match ps with
  | [p] => match itemsL M p with
    | some xs => (blsOf xs).map fun bs => .bl (bs.any id)
    | none => none
  | _ => none
def tupleF : PN := fun M ps => match ps with
  | [.tup xs] => some (.tup xs)
  | [p] => (itemsL M p).map .tup
  | _ => none
def listF : PN := fun M ps => match ps with
  | [.tup xs] => some (.lst xs)
  | [p] => (itemsL M p).map .lst
  | _ => none
mutual
/-- back from data -/
def undat : PyData → Option PV
  | .none => some .non
  | .bool b => some (.bl b)
  | .int i => some (.int i)
  | .str s => some (.str s)
  | .list xs => (undats xs).map .lst
  | .tuple xs => (undats xs).map .tup
  | .dict _ => none
def undats : List PyData → Option (List PV)
  | [] => some []
  | x :: xs => match undat x, undats xs with
    | some p, some ps => some (p :: ps)
    | _, _ => none
end
def notNone : PyData → Bool
  | .none => false
  | _ => true
def okMM (l : List PyData) : Bool := l.all (fun x => (l.all fun y => PySem.W.alike x y) && x.canLay0 && notNone x) && decide (PyData.depthAll l ≤ 32)
def minDL (xs : List PV) : Option PV := match dats xs with
  | some (d :: ds) => if okMM (d :: ds) = true then undat (PySem.W.minD d ds) else none
  | _ => none
def maxDL (xs : List PV) : Option PV := match dats xs with
  | some (d :: ds) => if okMM (d :: ds) = true then undat (PySem.W.maxD d ds) else none
  | _ => none
def minL (M : Store) (p : PV) : Option PV := match itemsL M p with
  | some xs => match intsOf xs with
    | some (n :: ns) => some (.int (minI (n :: ns)))
    | some [] => none
    | none => minDL xs
  | none => none
def maxL (M : Store) (p : PV) : Option PV := match itemsL M p with
  | some xs => match intsOf xs with
    | some (n :: ns) => some (.int (maxI (n :: ns)))
    | some [] => none
    | none => maxDL xs
  | none => none
def minF : PN := fun M ps => match ps with
  | [.int i, .int j] => some (.int (if j < i then j else i))
  | [p] => minL M p
  | _ => none
def maxF : PN := fun M ps => match ps with
  | [.int i, .int j] => some (.int (if i < j then j else i))
  | [p] => maxL M p
  | _ => none
def reprF : PN := fun M ps => match ps with
  | [p] => reprP M p
  | _ => none
def isinstF : PN := fun M ps => match ps with
  | [p, .ty n] => match tyNm M p with
    | some t => (kitB t n).map .bl
    | none => none
  | _ => none
def biP : BI → PN
  | .len => lenF
  | .abs => absF
  | .int => intF
  | .sum => sumF
  | .all => allF
  | .any => anyF
  | .tuple => tupleF
  | .list => listF
  | .min => minF
  | .max => maxF
  | .repr => reprF
  | .isinst => isinstF
def biNm : BI → Str
  | .len => "len" | .abs => "abs" | .int => "int" | .sum => "sum" | .all => "all" | .any => "any" | .tuple => "tuple" | .list => "list" | .min => "min" | .max => "max" | .repr => "repr" | .isinst => "isinstance"
def biV : BI → Value
  | .len => .builtin "len" | .abs => .builtin "abs" | .int => .type "int" | .sum => .builtin "sum" | .all => .builtin "all" | .any => .builtin "any" | .tuple => .type "tuple" | .list => .type "list"
  | .min => .builtin "min" | .max => .builtin "max" | .repr => .builtin "repr" | .isinst => .builtin "isinstance"
end
end DI
set_option maxHeartbeats 2000000
/-! # DI: the built-in functions keep their words -/
namespace DI
open PySem PySem.Spec L2
section
variable {X : Cx} {G : Gd} {ι : List Addr} {H : Hp} {O : Addr → Prop}
theorem Rps.intsOf : ∀ {ps : List PV} {vs : List V} {ns : List Int}, Rps G ι H O ps vs → DI.intsOf ps = some ns → vs = ns.map V.int
  | [], _, _, r, e => by cases r; cases e; rfl
  | p :: ps, _, ns, r, e => by
    cases r with
    | cons r1 r2 =>
      cases p with
      | int i =>
        unfold DI.intsOf at e
        split at e
        · rename_i ms hm
          cases e
          cases r1
          rw [r2.intsOf hm]
          rfl
        · cases e
      | _ => unfold DI.intsOf at e; cases e
theorem Rps.blsOf : ∀ {ps : List PV} {vs : List V} {ns : List Bool}, Rps G ι H O ps vs → DI.blsOf ps = some ns → vs = ns.map V.bl
  | [], _, _, r, e => by cases r; cases e; rfl
  | p :: ps, _, ns, r, e => by
    cases r with
    | cons r1 r2 =>
      cases p with
      | bl i =>
        unfold DI.blsOf at e
        split at e
        · rename_i ms hm
          cases e
          cases r1
          rw [r2.blsOf hm]
          rfl
        · cases e
      | _ => unfold DI.blsOf at e; cases e
theorem Rps.one {p : PV} {vs : List V} (r : Rps G ι H O [p] vs) : ∃ v, vs = [v] ∧ Rp G ι H O p v := by
  cases r with
  | cons r1 r2 => cases r2; exact ⟨_, rfl, r1⟩
theorem Rps.two {p q : PV} {vs : List V} (r : Rps G ι H O [p, q] vs) : ∃ v w, vs = [v, w] ∧ Rp G ι H O p v ∧ Rp G ι H O q w := by
  cases r with
  | cons r1 r2 =>
    obtain ⟨w, rfl, r3⟩ := r2.one
    exact ⟨_, w, rfl, r1, r3⟩
theorem MRel.itemsL {M : Store} (m : MRel G M ι H) {p : PV} {xs : List PV} {v : V} (h : DI.itemsL M p = some xs) (r : Rp G ι H (Own M ι) p v) : ∃ a vs, v = .ref a ∧ H a = some (.lst vs) ∧ xs.length ≤ sizeLine ∧ Rps G ι H (Own M ι) xs vs := by
  unfold DI.itemsL at h
  split at h
  · cases h
    cases r with
    | lst h1 h2 h3 => exact ⟨_, _, rfl, h1.1, h2, h3⟩
  · obtain ⟨a, vs, e, _, _, h3, h4, h5⟩ := m.lstAt h r
    exact ⟨a, vs, e, h3, h4, h5⟩
  · cases h
theorem minI_mem : ∀ (xs : List Int) (x : Int), (xs.foldl (fun m y => if y < m then y else m) x ∈ x :: xs) ∧ ∀ y ∈ x :: xs, xs.foldl (fun m y => if y < m then y else m) x ≤ y
  | [], x => by simp
  | z :: xs, x => by
    obtain ⟨h1, h2⟩ := minI_mem xs (if z < x then z else x)
    have hb := h2 _ List.mem_cons_self
    have hz : (if z < x then z else x) ≤ z ∧ (if z < x then z else x) ≤ x ∧ ((if z < x then z else x) = z ∨ (if z < x then z else x) = x) := by
      split <;> omega
    show xs.foldl _ (if z < x then z else x) ∈ _ ∧ ∀ y ∈ _, xs.foldl _ (if z < x then z else x) ≤ y
    generalize (if z < x then z else x) = w at h1 h2 hb hz ⊢
    refine ⟨?_, fun y hy => ?_⟩
    · rcases List.mem_cons.mp h1 with e | e
      · rw [e]
        rcases hz.2.2 with e | e <;> rw [e] <;> simp
      · exact List.mem_cons_of_mem _ (List.mem_cons_of_mem _ e)
    · rcases List.mem_cons.mp hy with e | hy
      · omega
      · rcases List.mem_cons.mp hy with e | hy
        · omega
        · exact h2 y (List.mem_cons_of_mem _ hy)
theorem maxI_mem : ∀ (xs : List Int) (x : Int), (xs.foldl (fun m y => if m < y then y else m) x ∈ x :: xs) ∧ ∀ y ∈ x :: xs, y ≤ xs.foldl (fun m y => if m < y then y else m) x
  | [], x => by simp
  | z :: xs, x => by
    obtain ⟨h1, h2⟩ := maxI_mem xs (if x < z then z else x)
    have hb := h2 _ List.mem_cons_self
    have hz : z ≤ (if x < z then z else x) ∧ x ≤ (if x < z then z else x) ∧ ((if x < z then z else x) = z ∨ (if x < z then z else x) = x) := by
      split <;> omega
    show xs.foldl _ (if x < z then z else x) ∈ _ ∧ ∀ y ∈ _, y ≤ xs.foldl _ (if x < z then z else x)
    generalize (if x < z then z else x) = w at h1 h2 hb hz ⊢
    refine ⟨?_, fun y hy => ?_⟩
    · rcases List.mem_cons.mp h1 with e | e
      · rw [e]
        rcases hz.2.2 with e | e <;> rw [e] <;> simp
      · exact List.mem_cons_of_mem _ (List.mem_cons_of_mem _ e)
    · rcases List.mem_cons.mp hy with e | hy
      · omega
      · rcases List.mem_cons.mp hy with e | hy
        · omega
        · exact h2 y (List.mem_cons_of_mem _ hy)
theorem MRel.tyX {M : Store} (m : MRel G M ι H) {p : PV} {v : V} {t : String} (r : Rp G ι H (Own M ι) p v) (h : tyNm M p = some t) : TyX G.K H v (.type t) := by
  cases p with
  | non => cases h; cases r; exact .base .non
  | bl b => cases h; cases r; exact .base (.bl b)
  | int i => cases h; cases r; exact .base (.int i)
  | str s => cases h; cases r; exact .base (.str s)
  | tup ps =>
    cases h
    cases r with
    | tup h1 h2 h3 =>
      rcases h1 with ⟨h1 | ⟨o, h1⟩, _⟩ | ⟨o, its, n, k1, k2, _⟩
      · exact .base (.tup h1)
      · exact .fTuple h1
      · exact .kTuple k1 k2
  | lst ps =>
    cases h
    cases r with
    | lst h1 h2 h3 => exact .base (.lst h1.1)
  | ref n =>
    unfold tyNm at h
    dsimp only at h
    split at h
    · rename_i xs hx
      cases h
      obtain ⟨a, vs, e, _, _, h3, h4, h5⟩ := m.lstAt hx r
      subst e
      exact .base (.lst h3)
    · cases h
  | _ => cases h
theorem pr_len (hK : X.K = G.K) : CallR X (.builtin "len") (LRN G lenF) := by
  intro pins s σ H xs us Q I r h
  obtain ⟨M, ι, ps, m, rs, post⟩ := h
  unfold lenF at post
  split at post
  · obtain ⟨v, rfl, rp⟩ := rs.one
    unfold lenP at post
    split at post
    · cases rp with
      | tup h1 h2 h3 =>
        have e := h3.length
        rw [e] at post
        exact call_len_seq pins s σ H _ us Q I r ⟨_, _, rfl, .inr (hK ▸ h1.sq), post.now m (.int _)⟩
    · cases rp with
      | lst h1 h2 h3 =>
        have e := h3.length
        rw [e] at post
        exact call_len_seq pins s σ H _ us Q I r ⟨_, _, rfl, .inl (hK ▸ h1.sq), post.now m (.int _)⟩
    · cases rp
      split at post
      · rename_i hz
        exact call_len_str pins s σ H _ us Q I r ⟨_, rfl, hz, post.now m (.int _)⟩
      · exact post.elim
    · split at post
      · rename_i hx
        obtain ⟨a, vs, rfl, h1, h2, h3, h4, h5⟩ := m.lstAt hx rp
        have e := h5.length
        rw [e] at post
        exact call_len_seq pins s σ H _ us Q I r ⟨_, _, rfl, .inl (SqL.of h3), post.now m (.int _)⟩
      · exact post.elim
    · exact post.elim
  · exact post.elim
theorem pr_abs : CallR X (.builtin "abs") (LRN G absF) := by
  intro pins s σ H xs us Q I r h
  obtain ⟨M, ι, ps, m, rs, post⟩ := h
  unfold absF at post
  split at post
  · obtain ⟨v, rfl, rp⟩ := rs.one
    cases rp
    exact call_abs pins s σ H _ us Q I r ⟨_, rfl, post.now m (.int _)⟩
  · exact post.elim
theorem pr_intF : CallR X (.type "int") (LRN G intF) := by
  intro pins s σ H xs us Q I r h
  obtain ⟨M, ι, ps, m, rs, post⟩ := h
  unfold intF at post
  split at post
  · obtain ⟨v, rfl, rp⟩ := rs.one
    cases rp
    exact call_int1 pins s σ H _ us Q I r (.inl ⟨_, rfl, post.now m (.int _)⟩)
  · obtain ⟨v, rfl, rp⟩ := rs.one
    cases rp
    exact call_int1 pins s σ H _ us Q I r (.inr ⟨_, rfl, post.now m (.int _)⟩)
  · exact post.elim
theorem cr_sumT (hc : X.calm = true) : CallR X (.builtin "sum") fun vs H Q => ∃ (a : Addr) (ns : List Int), vs = [V.ref a] ∧ SqT X.K H a (ns.map V.int) ∧ Q (.int ns.sum) H := by
  intro pins s σ H vs us Q I r h
  obtain ⟨a, ns, rfl, hs, q⟩ := h
  obtain ⟨its, rv, p, hz⟩ := I.tuple hs
  rw [Vals.ref1 r]
  obtain ⟨xs, e⟩ := rv.ints.allInts.items
  have hn : numsOf (intItems xs).toList = ns := by rw [← e]; exact rv.ints.numsOf
  rw [nums_intItems] at hn
  have p' : s.heap.IsTuple a (intItems xs) := by rw [← e]; exact p
  refine PySem.W.ktm_sumG (I.ok.hd hc) p' fun h' tk t' hk => ?_
  rw [preSum_eq, List.take_of_length_le (by simp), hn]
  exact ⟨.int _, H, I.kept hk, ⟨_, rfl⟩, q⟩
theorem pr_sum (hK : X.K = G.K) (hc : X.calm = true) : CallR X (.builtin "sum") (LRN G sumF) := by
  intro pins s σ H xs us Q I r h
  obtain ⟨M, ι, ps, m, rs, post⟩ := h
  unfold sumF at post
  split at post
  · obtain ⟨v, rfl, rp⟩ := rs.one
    rename_i ys
    cases rp with
    | tup h1 h2 h5 =>
      cases e : intsOf ys with
      | none => rw [e] at post; exact post.elim
      | some ns =>
        rw [e] at post
        have e2 := h5.intsOf e
        subst e2
        exact cr_sumT hc pins s σ H _ us Q I r ⟨_, ns, rfl, hK ▸ h1.sq, post.now m (.int _)⟩
  · obtain ⟨v, rfl, rp⟩ := rs.one
    split at post
    · rename_i ys hy
      obtain ⟨a, vs, rfl, h3, h4, h5⟩ := m.itemsL hy rp
      cases e : intsOf ys with
      | none => rw [e] at post; exact post.elim
      | some ns =>
        rw [e] at post
        have e2 := h5.intsOf e
        subst e2
        exact cr_sum hc pins s σ H _ us Q I r ⟨a, ns, rfl, SqL.of h3, post.now m (.int _)⟩
    · exact post.elim
  · exact post.elim
theorem pr_all (hc : X.calm = true) : CallR X (.builtin "all") (LRN G allF) := by
  intro pins s σ H xs us Q I r h
  obtain ⟨M, ι, ps, m, rs, post⟩ := h
  unfold allF at post
  split at post
  · obtain ⟨v, rfl, rp⟩ := rs.one
    split at post
    · rename_i ys hy
      obtain ⟨a, vs, rfl, h3, h4, h5⟩ := m.itemsL hy rp
      cases e : blsOf ys with
      | none => rw [e] at post; exact post.elim
      | some ns =>
        rw [e] at post
        have e2 := h5.blsOf e
        subst e2
        exact cr_all hc pins s σ H _ us Q I r ⟨a, ns, rfl, SqL.of h3, post.now m (.bl _)⟩
    · exact post.elim
  · exact post.elim
theorem pr_any (hc : X.calm = true) : CallR X (.builtin "any") (LRN G anyF) := by
  intro pins s σ H xs us Q I r h
  obtain ⟨M, ι, ps, m, rs, post⟩ := h
  unfold anyF at post
  split at post
  · obtain ⟨v, rfl, rp⟩ := rs.one
    split at post
    · rename_i ys hy
      obtain ⟨a, vs, rfl, h3, h4, h5⟩ := m.itemsL hy rp
      cases e : blsOf ys with
      | none => rw [e] at post; exact post.elim
      | some ns =>
        rw [e] at post
        have e2 := h5.blsOf e
        subst e2
        exact cr_any hc pins s σ H _ us Q I r ⟨a, ns, rfl, SqL.of h3, post.now m (.bl _)⟩
    · exact post.elim
  · exact post.elim
theorem pr_tuple (hK : X.K = G.K) : CallR X (.type "tuple") (LRN G tupleF) := by
  intro pins s σ H xs us Q I r h
  obtain ⟨M, ι, ps, m, rs, post⟩ := h
  unfold tupleF at post
  split at post
  · obtain ⟨v, rfl, rp⟩ := rs.one
    cases rp with
    | tup h1 h2 h3 => exact call_tuple_of pins s σ H _ us Q I r ⟨_, _, rfl, .inr ⟨hK ▸ h1.sq, post.now m (.tup h1 h2 h3)⟩⟩
  · rename_i p _
    obtain ⟨v, rfl, rp⟩ := rs.one
    cases e : DI.itemsL M p with
    | none => rw [e] at post; exact post.elim
    | some ys =>
      rw [e] at post
      obtain ⟨a, vs, rfl, h3, h4, h5⟩ := m.itemsL e rp
      exact call_tuple_of pins s σ H _ us Q I r ⟨_, _, rfl, .inl ⟨SqL.of h3, fun l hl => post.tup m h4 h5 hl⟩⟩
  · exact post.elim
theorem pr_list (hK : X.K = G.K) : CallR X (.type "list") (LRN G listF) := by
  intro pins s σ H xs us Q I r h
  obtain ⟨M, ι, ps, m, rs, post⟩ := h
  unfold listF at post
  split at post
  · obtain ⟨v, rfl, rp⟩ := rs.one
    cases rp with
    | tup h1 h2 h3 => exact call_list_of pins s σ H _ us Q I r ⟨_, _, rfl, .inr (hK ▸ h1.sq), fun l hl => post.lst m h2 h3 hl⟩
  · rename_i p _
    obtain ⟨v, rfl, rp⟩ := rs.one
    cases e : DI.itemsL M p with
    | none => rw [e] at post; exact post.elim
    | some ys =>
      rw [e] at post
      obtain ⟨a, vs, rfl, h3, h4, h5⟩ := m.itemsL e rp
      exact call_list_of pins s σ H _ us Q I r ⟨_, _, rfl, .inl (SqL.of h3), fun l hl => post.lst m h4 h5 hl⟩
  · exact post.elim
theorem min_eq {n m : Int} {ns : List Int} (h1 : m ∈ n :: ns) (h2 : ∀ y ∈ n :: ns, m ≤ y) : minI (n :: ns) = m := by
  obtain ⟨a, b⟩ := minI_mem ns n
  have x := b m h1
  have y := h2 _ a
  show ns.foldl _ n = m
  omega
theorem max_eq {n m : Int} {ns : List Int} (h1 : m ∈ n :: ns) (h2 : ∀ y ∈ n :: ns, y ≤ m) : maxI (n :: ns) = m := by
  obtain ⟨a, b⟩ := maxI_mem ns n
  have x := b m h1
  have y := h2 _ a
  show ns.foldl _ n = m
  omega
mutual
theorem undat_dat : ∀ (p : PV) (d : PyData), dat p = some d → undat d = some p
  | .non, d, e => by unfold dat at e; cases e; simp only [undat]
  | .bl b, d, e => by unfold dat at e; cases e; simp only [undat]
  | .int b, d, e => by unfold dat at e; cases e; simp only [undat]
  | .str b, d, e => by unfold dat at e; cases e; simp only [undat]
  | .tup ps, d, e => by
    unfold dat at e
    cases e2 : dats ps with
    | none => rw [e2] at e; cases e
    | some ds => rw [e2] at e; cases e; simp only [undat, undats_dats ps ds e2]; rfl
  | .lst ps, d, e => by
    unfold dat at e
    cases e2 : dats ps with
    | none => rw [e2] at e; cases e
    | some ds => rw [e2] at e; cases e; simp only [undat, undats_dats ps ds e2]; rfl
  | .ref _, d, e => by unfold dat at e; cases e
  | .fn _, d, e => by unfold dat at e; cases e
  | .ty _, d, e => by unfold dat at e; cases e
  | .scr _, d, e => by unfold dat at e; cases e
theorem undats_dats : ∀ (ps : List PV) (ds : List PyData), dats ps = some ds → undats ds = some ps
  | [], ds, e => by unfold dats at e; cases e; simp only [undats]
  | p :: ps, ds, e => by
    unfold dats at e
    cases e1 : dat p with
    | none => rw [e1] at e; cases e
    | some d =>
      cases e2 : dats ps with
      | none => rw [e1, e2] at e; cases e
      | some ds' =>
        rw [e1, e2] at e
        cases e
        simp only [undats, undat_dat p d e1, undats_dats ps ds' e2]
end
theorem dats_get : ∀ {ps : List PV} {ds : List PyData} {i : Nat} {p : PV}, dats ps = some ds → ps[i]? = some p → ∃ d, ds[i]? = some d ∧ dat p = some d
  | [], _, _, _, _, h => by simp at h
  | q :: ps, ds, i, p, e, h => by
    unfold dats at e
    cases e1 : dat q with
    | none => rw [e1] at e; cases e
    | some d =>
      cases e2 : dats ps with
      | none => rw [e1, e2] at e; cases e
      | some ds' =>
        rw [e1, e2] at e
        cases e
        cases i with
        | zero => simp at h; subst h; exact ⟨d, rfl, e1⟩
        | succ i =>
          obtain ⟨d', h1, h2⟩ := dats_get (i := i) (p := p) e2 (by simpa using h)
          exact ⟨d', by simpa using h1, h2⟩
theorem okMM_ok {l : List PyData} (h : okMM l = true) : PySem.W.AlikeAll l ∧ (∀ d ∈ l, d.canLay0 = true) ∧ PyData.depthAll l ≤ 32 := by
  unfold okMM at h
  simp only [Bool.and_eq_true, List.all_eq_true, decide_eq_true_eq] at h
  exact ⟨⟨fun x hx y hy => (h.1 x hx).1.1 y hy, fun x hx e => by subst e; exact absurd (h.1 _ hx).2 Bool.false_ne_true⟩, fun x hx => (h.1 x hx).1.2, h.2⟩
/-- the item that the value is -/
theorem mm_item {X : Cx} {G : Gd} {M : Store} {ι : List Addr} {H : Hp} {pins : List (Addr × Obj)} {σ : St} {s : Shared} {ys : List PV} {vs : List V} {its : List Value} {ds : List PyData} {m : PyData} {i : Nat} {u : Value} {h' : Heap} {bs : List Addr} {Q : VK}
    (hK : X.K = G.K) (mr : MRel G M ι H) (I : Inv X pins σ H s) (h5 : Rps G ι H (Own M ι) ys vs) (rv : Vals vs its) (e : dats ys = some ds) (hcl : ∀ d ∈ ds, d.canLay0 = true) (hi : its.toArray[i]? = some u) (hr : Reads h' u m bs) (hk : ∀ b o, s.heap.get? b = some o → h'.get? b = some o)
    {tk : Nat} (post : PostV G M ι H Q (undat m)) : EP X pins σ Q u { s with heap := h', toks := tk } := by
  have hlt : i < vs.length := by
    have := (Array.getElem?_eq_some_iff.mp hi).1
    have l := rv.length
    simp at this
    omega
  obtain ⟨u', e1, e2⟩ := rv.get (List.getElem?_eq_getElem hlt)
  have e3 : some u = some u' := by rw [← hi]; simpa using e1
  cases e3
  obtain ⟨p, hp, rp⟩ := h5.getV (List.getElem?_eq_getElem hlt)
  obtain ⟨d, hd, hpd⟩ := dats_get e hp
  obtain ⟨as, r1⟩ := Dp.reads I d _ u (hK ▸ Rp.dp p _ d rp hpd) e2
  have r2 : Reads h' u d as := PySem.W.reads_keeps hk r1
  have hdm : d = m := PySem.SeqAt.Reads.unique d m u as bs (hcl d (List.mem_of_getElem? hd)) r2 hr
  subst hdm
  rw [undat_dat p d hpd] at post
  exact ⟨_, H, I.kept hk, e2, post.now mr rp⟩
theorem pr_min (hK : X.K = G.K) (hu : X.A.units + 66 < cLine) (hc : X.calm = true) : CallR X (.builtin "min") (LRN G minF) := by
  intro pins s σ H xs us Q I r h
  obtain ⟨M, ι, ps, m, rs, post⟩ := h
  unfold minF at post
  split at post
  · obtain ⟨v, w, rfl, rp, rq⟩ := rs.two
    cases rp
    cases rq
    exact call_min2 hc pins s σ H _ us Q I r ⟨_, _, rfl, post.now m (.int _)⟩
  · obtain ⟨v, rfl, rp⟩ := rs.one
    unfold minL at post
    split at post
    · rename_i ys hy
      obtain ⟨a, vs, rfl, h3, h4, h5⟩ := m.itemsL hy rp
      split at post
      · rename_i n ns e
        have e2 := h5.intsOf e
        subst e2
        exact cr_min hc pins s σ H _ us Q I r ⟨a, n :: ns, rfl, SqL.of h3, Nat.succ_pos _, fun k hk1 hk2 => by
          rw [min_eq hk1 hk2] at post
          exact post.now m (.int _)⟩
      · exact post.elim
      · unfold minDL at post
        split at post
        · rename_i d ds e
          split at post
          · rename_i hok
            obtain ⟨h6, h7, h8⟩ := okMM_ok hok
            obtain ⟨its, rv, pl, hz⟩ := I.list (SqL.of h3)
            obtain ⟨as, hr⟩ := Dp.readsAll I _ vs its (hK ▸ Rps.dp ys vs _ h5 e) rv
            cases r with
            | cons r rr =>
              cases rr
              cases r
              exact PySem.W.min_list_data (I.ok.hd hc) pl.isList hr h6 (by omega) fun i u h' tk bs hi hrd hk => mm_item hK m I h5 rv e h7 hi hrd hk post
          · exact post.elim
        · exact post.elim
    · exact post.elim
  · exact post.elim
theorem pr_max (hK : X.K = G.K) (hu : X.A.units + 66 < cLine) (hc : X.calm = true) : CallR X (.builtin "max") (LRN G maxF) := by
  intro pins s σ H xs us Q I r h
  obtain ⟨M, ι, ps, m, rs, post⟩ := h
  unfold maxF at post
  split at post
  · obtain ⟨v, w, rfl, rp, rq⟩ := rs.two
    cases rp
    cases rq
    exact call_max2 hc pins s σ H _ us Q I r ⟨_, _, rfl, post.now m (.int _)⟩
  · obtain ⟨v, rfl, rp⟩ := rs.one
    unfold maxL at post
    split at post
    · rename_i ys hy
      obtain ⟨a, vs, rfl, h3, h4, h5⟩ := m.itemsL hy rp
      split at post
      · rename_i n ns e
        have e2 := h5.intsOf e
        subst e2
        exact cr_max hc pins s σ H _ us Q I r ⟨a, n :: ns, rfl, SqL.of h3, Nat.succ_pos _, fun k hk1 hk2 => by
          rw [max_eq hk1 hk2] at post
          exact post.now m (.int _)⟩
      · exact post.elim
      · unfold maxDL at post
        split at post
        · rename_i d ds e
          split at post
          · rename_i hok
            obtain ⟨h6, h7, h8⟩ := okMM_ok hok
            obtain ⟨its, rv, pl, hz⟩ := I.list (SqL.of h3)
            obtain ⟨as, hr⟩ := Dp.readsAll I _ vs its (hK ▸ Rps.dp ys vs _ h5 e) rv
            cases r with
            | cons r rr =>
              cases rr
              cases r
              exact PySem.W.max_list_data (I.ok.hd hc) pl.isList hr h6 (by omega) fun i u h' tk bs hi hrd hk => mm_item hK m I h5 rv e h7 hi hrd hk post
          · exact post.elim
        · exact post.elim
    · exact post.elim
  · exact post.elim
theorem pr_isinst (hK : X.K = G.K) : CallR X (.builtin "isinstance") (LRN G isinstF) := by
  intro pins s σ H xs us Q I r h
  obtain ⟨M, ι, ps, m, rs, post⟩ := h
  unfold isinstF at post
  split at post
  · rename_i p n
    obtain ⟨v, w, rfl, rp, rq⟩ := rs.two
    cases rq
    split at post
    · rename_i t ht
      cases e : kitB t n with
      | none => rw [e] at post; exact post.elim
      | some b =>
        rw [e] at post
        exact call_isi pins s σ H _ us Q I r ⟨v, .ty n, .type t, .type n, b, rfl, .ty n, hK ▸ m.tyX rp ht, kit_ty e, post.now m (.bl _)⟩
    · exact post.elim
  · exact post.elim
theorem pr_repr (hK : X.K = G.K) (hg : X.A.guards = some []) (hu : X.A.units + 66 < cLine) : CallR X (.builtin "repr") (LRN G reprF) := by
  intro pins s σ H xs us Q I r h
  obtain ⟨M, ι, ps, m, rs, post⟩ := h
  unfold reprF at post
  split at post
  · rename_i p
    obtain ⟨v, rfl, rp⟩ := rs.one
    obtain ⟨u, rfl, ru⟩ := vals1 r
    unfold reprP at post
    split at post
    · rename_i d hd
      split at post
      · rename_i hs
        simp only [Bool.and_eq_true, decide_eq_true_eq, Bool.not_eq_true'] at hs
        obtain ⟨⟨⟨h1, h2⟩, h3⟩, h4⟩ := hs
        have dp : Dp X.K H v d := hK ▸ m.dp rp hd
        have hq : Q (.str d.shown) H := post.now m (.str _)
        cases d with
        | none =>
          cases dp
          cases ru
          simp only [PyData.shown_none] at hq
          exact PySem.P.repr_of_none ⟨.str _, H, I.tok _, ⟨_, rfl⟩, hq⟩
        | bool b =>
          cases dp
          cases ru
          simp only [PyData.shown_bool] at hq
          exact PySem.P.repr_of_bool ⟨.str _, H, I.tok _, ⟨_, rfl⟩, hq⟩
        | int i =>
          cases dp
          obtain ⟨t, rfl⟩ := ru
          simp only [PyData.shown_int] at hq
          exact PySem.P.repr_of_int (by simpa [PyData.showable] using h1) ⟨.str _, H, I.tok _, ⟨_, rfl⟩, hq⟩
        | str z =>
          cases dp
          obtain ⟨t, rfl⟩ := ru
          simp only [PyData.shown_str] at hq h4
          exact PySem.P.repr_of_str ⟨.str _, H, I.tok _, ⟨_, rfl⟩, hq⟩ h4
        | list ds =>
          obtain ⟨as, hr⟩ := Dp.reads I _ v u dp ru
          cases dp
          cases ru
          exact repr_of_reads' hr h1 (PyData.noDict_hsm h2) hg (by omega) (fun _ _ e => e) (fun h' u tk hk => ⟨.str _, H, I.kept hk, ⟨_, rfl⟩, hq⟩) h4
        | tuple ds =>
          obtain ⟨as, hr⟩ := Dp.reads I _ v u dp ru
          cases dp
          cases ru
          exact repr_of_reads' hr h1 (PyData.noDict_hsm h2) hg (by omega) (fun _ _ e => e) (fun h' u tk hk => ⟨.str _, H, I.kept hk, ⟨_, rfl⟩, hq⟩) h4
        | dict _ => cases dp
      · exact post.elim
    · exact post.elim
  · exact post.elim
end
end DI
set_option maxHeartbeats 2000000
/-! # DI: code and what it gives -/
namespace DI
open PySem PySem.Spec L2

/-- a target -/
inductive CT where
  | name (i : Nat)
  | tup (ts : List CT)
mutual
def asg : CT → PV → Sl → Option Sl
  | .name i, p, sp => if i < sp.length then some (sp.set i (some p)) else none
  | .tup ts, p, sp => match p with
    | .tup ps => asgs ts ps sp
    | _ => none
def asgs : List CT → List PV → Sl → Option Sl
  | [], [], sp => some sp
  | t :: ts, p :: ps, sp => match asg t p sp with
    | some sp1 => asgs ts ps sp1
    | none => none
  | _, _, _ => none
end
mutual
def CT.slots : CT → List Nat
  | .name i => [i]
  | .tup ts => CT.slotss ts
def CT.slotss : List CT → List Nat
  | [] => []
  | t :: ts => t.slots ++ CT.slotss ts
end

/-- a built-in type's methods -/
inductive BM where
  | append | pop | extend | insert
  deriving DecidableEq

mutual
inductive CE where
  | var (i : Nat)
  | non | bl (b : Bool) | int (i : Int) | str (s : Str)
  | glob (k : Nat) | fn (f : Nat) | bty (n : String)
  | neg (a : CE) | notE (a : CE)
  | bin (op : Operator) (a b : CE)
  | cmp (op : CmpOp) (a b : CE)
  | cmp2 (op op2 : CmpOp) (a b c : CE)
  | andE (es : CEs) | orE (es : CEs)
  | ife (c a b : CE)
  | tup (es : CEs) | lst (es : CEs) | lstR (es : CEs)
  | idx (a i : CE)
  | slc (a : CE) (lo hi : Option CE)
  | call (f : Nat) (es : CEs)
  | callV (i : Nat) (es : CEs)
  | callB (b : BI) (es : CEs)
  | meth (m : BM) (o : CE) (es : CEs)
  | frz (i : Nat)
  | sset (a : CE)
  | heard (f : Nat) (a : CE)
  | listR (a : CE)
  | srt (a : CE)
  | rev (a : CE)
  | index (o x : CE)
  | fld (a : CE) (f : Str)
  | newI (c n j : Nat) (es : CEs)
  | mcall (a : CE) (m : Str) (es : CEs)
  | dctN
  | getD (o k d : CE)
  | inD (ng : Bool) (k o : CE)
  | idxD (o k : CE)
  | comp (own : List (Str × Nat)) (tg : CT) (it : CI) (cd : Option CE) (elt : CE)
inductive CEs where
  | nil
  | cons (e : CE) (r : CEs)
  | star (e : CE) (r : CEs)
inductive CI where
  | seq (e : CE)
  | rng1 (a : CE) | rng2 (a b : CE) | rng3 (a b c : CE)
  | enum (e : CE) | zip (a b : CE) | zip3 (a b c : CE)
end

/-- what is walked, and which lists must stand still meanwhile -/
structure ItV where
  items : List PV
  gd : List (Nat × List PV)
def gdOk (M : Store) (gd : List (Nat × List PV)) : Prop := ∀ p ∈ gd, lstAt M p.1 = some p.2
theorem gdOk_nil (M : Store) : gdOk M [] ↔ True := by simp [gdOk]
open Classical in
noncomputable def gdIf {α : Type} (M : Store) (gd : List (Nat × List PV)) (r : Res α) : Res α := if gdOk M gd then r else .bad
theorem gdIf_nil {α : Type} (M : Store) (r : Res α) : gdIf M [] r = r := by
  unfold gdIf
  rw [if_pos ((gdOk_nil M).mpr trivial)]
/-- the items of a value, one by one -/
def seqIt (M : Store) : PV → Option ItV
  | .tup xs => some ⟨xs, []⟩
  | .lst xs => some ⟨xs, []⟩
  | .ref n => match lstAt M n with
    | some xs => some ⟨xs, [(n, xs)]⟩
    | none => none
  | .str s => if s.length ≤ sizeLine then some ⟨s.cps.toList.map fun c => .str ⟨#[c]⟩, []⟩ else none
  | _ => none
/-- lo, lo + c, .. (n of them) -/
def rngL (lo c : Int) (n : Nat) : List PV := (List.range n).map fun k => .int (lo + (k : Nat) * c)
def rngOk (i : Int) : Bool := decide (-(2 ^ 62) ≤ i) && decide (i < 2 ^ 62)
def rngIt (lo hi : Int) : Option ItV := if (rngOk lo && rngOk hi && decide ((hi - lo).toNat ≤ sizeLine)) = true then some ⟨rngL lo 1 (hi - lo).toNat, []⟩ else none
def rngIt3 (lo hi c : Int) : Option ItV :=
  if (rngOk lo && rngOk hi && decide (c = -1) && decide ((lo - hi).toNat ≤ sizeLine)) = true then some ⟨rngL lo (-1) (lo - hi).toNat, []⟩ else none
def enumL (xs : List PV) : List PV := xs.zipIdx.map fun (p, i) => .tup [.int (i : Nat), p]
def zipL (xs ys : List PV) : List PV := (xs.zip ys).map fun (p, q) => .tup [p, q]
def zipL3 (xs ys zs : List PV) : List PV := (xs.zip (ys.zip zs)).map fun (p, q, r) => .tup [p, q, r]
def Res.ofO {α : Type} (o : Option α) (M : Store) : Res α := match o with
  | some a => .ok a M
  | none => .bad
/-- a block over items: what each turn yields -/
noncomputable def compR (gd : List (Nat × List PV)) (step : PV → Store → Res (Option PV)) : List PV → Store → Res (List PV)
  | [], M => gdIf M gd (.ok [] M)
  | x :: xs, M => gdIf M gd (match step x M with
    | .ok o M1 => match compR gd step xs M1 with
      | .ok ys M2 => .ok (o.toList ++ ys) M2
      | _ => .bad
    | _ => .bad)
def wipeP (sp : Sl) : List Nat → Sl
  | [] => sp
  | v :: vs => (wipeP sp vs).set v none
/-- methods of built-in types: the value, the store behind -/
def appP (M : Store) (o : PV) (ps : List PV) : Option (PV × Store) := match o, ps with
  | .ref n, [p] => match lstAt M n with
    | some xs => if xs.length < sizeLine then some (.non, M.set n (some (.lst (xs ++ [p])))) else none
    | none => none
  | _, _ => none
def popP (M : Store) (o : PV) (ps : List PV) : Option (PV × Store) := match o, ps with
  | .ref n, [] => match lstAt M n with
    | some xs => match xs[xs.length - 1]? with
      | some p => some (p, M.set n (some (.lst xs.dropLast)))
      | none => none
    | none => none
  | .ref n, [.int i] => match lstAt M n with
    | some xs => if 0 ≤ i then match xs[i.toNat]? with
      | some p => some (p, M.set n (some (.lst (xs.eraseIdx i.toNat))))
      | none => none else none
    | none => none
  | _, _ => none
def extP (M : Store) (o : PV) (ps : List PV) : Option (PV × Store) := match o, ps with
  | .ref n, [p] => match lstAt M n with
    | some xs => match itemsL M p with
      | some ys => if xs.length + ys.length ≤ sizeLine then some (.non, M.set n (some (.lst (xs ++ ys)))) else none
      | none => none
    | none => none
  | _, _ => none
def insP (M : Store) (o : PV) (ps : List PV) : Option (PV × Store) := match o, ps with
  | .ref n, [.int i, p] => match lstAt M n with
    | some xs => if 0 ≤ i ∧ i ≤ (xs.length : Int) ∧ xs.length < sizeLine then some (.non, M.set n (some (.lst (xs.take i.toNat ++ [p] ++ xs.drop i.toNat)))) else none
    | none => none
  | _, _ => none
def bmP : BM → Store → PV → List PV → Option (PV × Store)
  | .append => appP
  | .pop => popP
  | .extend => extP
  | .insert => insP
def tyM (M : Store) : PV → Bool
  | .ref n => (lstAt M n).isSome
  | _ => false
def bmR (m : BM) (M : Store) (o : PV) (ps : List PV) : Res PV := match bmP m M o ps with
  | some (r, M3) => .ok r M3
  | none => .bad
def andK (k : Store → Res PV) : PV → Store → Res PV
  | .bl true, M => k M
  | .bl false, M => .ok (.bl false) M
  | _, _ => .bad
def orK (k : Store → Res PV) : PV → Store → Res PV
  | .bl true, M => .ok (.bl true) M
  | .bl false, M => k M
  | _, _ => .bad
/-- texts of ints, each of d, in [0, b) -/
def intTups : List PV → Option (List (List Int))
  | [] => some []
  | .tup ps :: r => match intsOf ps, intTups r with
    | some k, some ks => some (k :: ks)
    | _, _ => none
  | _ => none
def codeI (B : Int) : List Int → Int := TS.code B
def insT (B : Int) (x : List Int) : List (List Int) → List (List Int)
  | [] => [x]
  | y :: r => if codeI B x < codeI B y then x :: y :: r else if codeI B x = codeI B y then y :: r else y :: insT B x r
def sortT (B : Int) : List (List Int) → List (List Int)
  | [] => []
  | x :: r => insT B x (sortT B r)
def bdB (B : Int) (d : Nat) (k : List Int) : Bool := decide (k.length = d) && k.all fun i => decide (0 ≤ i) && decide (i < B)
def srtB : Int := 1000
/-- sorted(set(xs)) of tuples of ints -/
def ssetP (M : Store) (p : PV) : Option PV := match itemsL M p with
  | some xs => match intTups xs with
    | some ks => let d := (ks.headD [0]).length
      if (decide (1 ≤ d) && decide (ks.length < 64) && ks.all (bdB srtB d)) = true then some (.lst ((sortT srtB ks).map fun k => .tup (k.map .int))) else none
    | none => none
  | none => none
/-- sorted(xs), tuples of ints -/
def isrt (B : Int) (ks : List (List Int)) : List (List Int) := ks.mergeSort fun x y => decide (codeI B x ≤ codeI B y)
def srtP (M : Store) (p : PV) : Option PV := match itemsL M p with
  | some xs => match intTups xs with
    | some ks => let d := (ks.headD [0]).length
      if (decide (1 ≤ d) && decide (ks.length < 64) && ks.all (bdB srtB d)) = true then some (.lst ((isrt srtB ks).map fun k => .tup (k.map .int))) else none
    | none => none
  | none => none
/-- xs.index(i), ints -/
def indexP (M : Store) (p q : PV) : Option PV := match q with
  | .int i => match itemsL M p with
    | some xs => match intsOf xs with
      | some ns => (ns.findIdx? fun x => x == i).map fun j => .int (j : Int)
      | none => none
    | none => none
  | _ => none
/-- x[::-1] -/
def revP (M : Store) (p : PV) : Option PV := match p with
  | .tup xs => some (.tup xs.reverse)
  | p => (itemsL M p).map fun xs => .lst xs.reverse
/-- an expression of an except suite: the error's fields by number -/
inductive HE where
  | non | bl (b : Bool) | int (i : Int) | str (s : Str)
  | fld (i : Nat)
  | tup (es : List HE)
mutual
def evH (x : Exc) : HE → Option PV
  | .non => some .non
  | .bl b => some (.bl b)
  | .int i => some (.int i)
  | .str s => some (.str s)
  | .fld i => x.fs[i]?
  | .tup es => (evHs x es).map .tup
def evHs (x : Exc) : List HE → Option (List PV)
  | [] => some []
  | e :: es => match evH x e, evHs x es with
    | some p, some ps => some (p :: ps)
    | _, _ => none
end
/-- an except suite -/
inductive HS where
  | ret (e : HE)
  | raise (c : Nat)
  | cont
  | pass
/-- an except clause: its class, the error's name's slot, its suite -/
structure HC where
  c : Nat
  nm : Option Nat
  su : HS
  c2 : Option Nat := none
def excM (exm : List (Nat × Nat × Bool)) (c d : Nat) : Option Bool := match exm.find? fun z => z.1 == c && z.2.1 == d with
  | some (_, _, b) => some b
  | none => none
def excM2 (exm : List (Nat × Nat × Bool)) (c d : Nat) : Option Nat → Option Bool
  | none => excM exm c d
  | some e => match excM exm c d, excM exm c e with
    | some a, some b => some (a || b)
    | _, _ => none
def runS (x : Exc) (su : HS) (sp : Sl) (M : Store) : SRes := match su with
  | .ret e => match evH x e with
    | some p => .ret p M
    | none => .bad
  | .raise c => if x.hot = true then .bad else .exc ⟨c, [], true⟩ sp M
  | .cont => .cnt sp M
  | .pass => .nx sp M
def runH (exm : List (Nat × Nat × Bool)) (x : Exc) (sp : Sl) (M : Store) : List HC → SRes
  | [] => .exc { x with hot := true } sp M
  | h :: r => match excM2 exm x.cls h.c h.c2 with
    | some true => match h.nm with
      | none => runS ⟨0, [], x.hot⟩ h.su sp M
      | some i => if x.cls = h.c ∧ i < sp.length then runS x h.su (sp.set i none) M else .bad
    | some false => runH exm x sp M r
    | none => .bad
/-- a def that calls what it got, and tells what it heard: its number, its word, its clauses, its slots -/
structure HrdC where
  f : Nat
  told : Str
  hs : List HC
  n : Nat
/-- the tables: constants of the module, the defs' and the classes' names, built-in names that the module leaves alone -/
structure Tab where
  cst : List (Str × PV)
  fnm : List Str
  cnm : List (Str × List Str)
  free : List Str
  exm : List (Nat × Nat × Bool)
  ex0 : List Nat
  ex2 : List Nat := []
  hrd : List HrdC := []
  lns : Option (List (Str × NameKind)) := none
  own : List Nat := []
  mts : List (Nat × Str) := []
/-- a new list of the store, of what another holds -/
def listIt (M : Store) : PV → Option (List PV)
  | .tup xs => some xs
  | p => itemsL M p
def listRK (M : Store) (p : PV) : Res PV := match listIt M p with
  | some xs => .ok (.ref M.length) (M ++ [some (.lst xs)])
  | none => .bad
abbrev Fns := Nat → List PV → Store → Res PV
/-! ### instances of own classes -/
/-- field f of the instance p -/
def fldP (T : Tab) (M : Store) (p : PV) (f : Str) : Option PV := match p with
  | .ref n => match M[n]? with
    | some (some (.ins c fs)) => match T.cnm[c]? with
      | some (_, fn) => if T.own.contains c = true then match fn.findIdx? (fun g => decide (g = f)) with
        | some i => match fs[i]? with
          | some (some q) => some q
          | _ => none
        | none => none else none
      | none => none
    | _ => none
  | _ => none
def setFP (T : Tab) (M : Store) (p : PV) (f : Str) (q : PV) : Option Store := match p with
  | .ref n => match M[n]? with
    | some (some (.ins c fs)) => match T.cnm[c]? with
      | some (_, fn) => if T.own.contains c = true then match fn.findIdx? (fun g => decide (g = f)) with
        | some i => some (M.set n (some (.ins c (fs.set i (some q)))))
        | none => none else none
      | none => none
    | _ => none
  | _ => none
def newK (Γ : Fns) (c n f : Nat) (ps : List PV) (M : Store) : Res PV := (Γ f (.ref M.length :: ps) (M ++ [some (.ins c (List.replicate n none))])).bind fun p M2 => match p with
  | .non => .ok (.ref M.length) M2
  | _ => .bad
/-- the def that is the method m of the instance p -/
def methP (T : Tab) (M : Store) (p : PV) (m : Str) : Option Nat := match p with
  | .ref n => match M[n]? with
    | some (some (.ins c _)) => match T.mts.findIdx? (fun z => decide (z.1 = c) && decide (z.2 = m)) with
      | some j => some (T.fnm.length + j)
      | none => none
    | _ => none
  | _ => none
/-! ### dicts whose keys are numbers and texts -/
def keyP : PV → Option L2.Key
  | .int i => some (.inl i)
  | .str s => some (.inr s)
  | _ => none
def keyV : L2.Key → PV
  | .inl i => .int i
  | .inr s => .str s
def getA (kvs : List (L2.Key × PV)) (k : L2.Key) : Option PV := (kvs.find? fun kv => decide (kv.1 = k)).map (·.2)
def putA (kvs : List (L2.Key × PV)) (k : L2.Key) (v : PV) : List (L2.Key × PV) :=
  if (kvs.any fun kv => decide (kv.1 = k)) = true then kvs.map (fun kv => if kv.1 = k then (kv.1, v) else kv) else kvs ++ [(k, v)]
def dctAt (M : Store) (n : Nat) : Option (List (L2.Key × PV)) := match M[n]? with
  | some (some (.dct kvs)) => some kvs
  | _ => none
def isDP (M : Store) (p : PV) : Bool := match p with
  | .ref n => (dctAt M n).isSome
  | _ => false
def getDP (M : Store) (p q : PV) : Option (Option PV) := match p with
  | .ref n => match dctAt M n with
    | some kvs => (keyP q).map (getA kvs)
    | none => none
  | _ => none
def inDP (ng : Bool) (M : Store) (p q : PV) : Option PV := (getDP M p q).map fun r => .bl (if ng = true then !r.isSome else r.isSome)
def putDP (M : Store) (p q v : PV) : Option Store := match p with
  | .ref n => match dctAt M n with
    | some kvs => match keyP q with
      | some k => if kvs.length < sizeLine then some (M.set n (some (.dct (putA kvs k v)))) else none
      | none => none
    | none => none
  | _ => none
/-- what is told of what was heard -/
def heardH (T : Tab) (h : HrdC) : Res PV → Res PV
  | .ok p M1 => .ok (.tup [.str h.told, p]) M1
  | .exc x M1 => match runH T.exm x (List.replicate h.n none) M1 h.hs with
    | .ret p M2 => .ok p M2
    | _ => .bad
  | .bad => .bad
def heardR (T : Tab) (f : Nat) (r : Res PV) : Res PV := match T.hrd.find? fun h => decide (h.f = f) with
  | some h => heardH T h r
  | none => .bad

section
variable (T : Tab) (Γ : Fns)
mutual
noncomputable def ev : CE → Ev PV
  | .var i => fun sp M => match sp[i]? with
    | some (some p) => .ok p M
    | _ => .bad
  | .non => fun _ M => .ok .non M
  | .bl b => fun _ M => .ok (.bl b) M
  | .int i => fun _ M => .ok (.int i) M
  | .str s => fun _ M => .ok (.str s) M
  | .glob k => fun _ M => match T.cst[k]? with
    | some (_, p) => .ok p M
    | none => .bad
  | .fn f => fun _ M => .ok (.fn f) M
  | .bty n => fun _ M => .ok (.ty n) M
  | .neg a => fun sp M => (ev a sp M).bind fun p M1 => .ofO (negP M1 p) M1
  | .notE a => fun sp M => (ev a sp M).bind fun p M1 => match p with
    | .bl b => .ok (.bl (!b)) M1
    | _ => .bad
  | .bin op a b => fun sp M => (ev a sp M).bind fun p M1 => (ev b sp M1).bind fun q M2 => .ofO (binP op M2 p q) M2
  | .cmp op a b => fun sp M => (ev a sp M).bind fun p M1 => (ev b sp M1).bind fun q M2 => .ofO (cmpP op M2 p q) M2
  | .cmp2 op op2 a b c => fun sp M => (ev a sp M).bind fun p M1 => (ev b sp M1).bind fun q M2 => match cmpP op M2 p q with
    | some (.bl true) => (ev c sp M2).bind fun r M3 => .ofO (cmpP op2 M3 q r) M3
    | some (.bl false) => .ok (.bl false) M2
    | _ => .bad
  | .andE es => fun sp M => evAnd es sp M
  | .orE es => fun sp M => evOr es sp M
  | .ife c a b => fun sp M => (ev c sp M).bind fun p M1 => match p with
    | .bl true => ev a sp M1
    | .bl false => ev b sp M1
    | _ => .bad
  | .tup es => fun sp M => (evs es sp M).bind fun ps M1 => if ps.length ≤ sizeLine then .ok (.tup ps) M1 else .bad
  | .lst es => fun sp M => (evs es sp M).bind fun ps M1 => if ps.length ≤ sizeLine then .ok (.lst ps) M1 else .bad
  | .lstR es => fun sp M => (evs es sp M).bind fun ps M1 => if ps.length ≤ sizeLine then .ok (.ref M1.length) (M1 ++ [some (.lst ps)]) else .bad
  | .idx a i => fun sp M => (ev a sp M).bind fun p M1 => (ev i sp M1).bind fun q M2 => .ofO (idxP M2 p q) M2
  | .slc a lo hi => fun sp M => (ev a sp M).bind fun p M1 => (evO lo sp M1).bind fun l M2 => (evO hi sp M2).bind fun h M3 => .ofO (slcP M3 p l h) M3
  | .call f es => fun sp M => (evs es sp M).bind fun ps M1 => Γ f ps M1
  | .callV i es => fun sp M => match sp[i]? with
    | some (some (.fn f)) => (evs es sp M).bind fun ps M1 => Γ f ps M1
    | _ => .bad
  | .callB b es => fun sp M => (evs es sp M).bind fun ps M1 => .ofO (biP b M1 ps) M1
  | .meth m o es => fun sp M => (ev o sp M).bind fun p M1 => if tyM M1 p = true then (evs es sp M1).bind fun ps M2 => bmR m M2 p ps else .bad
  | .frz i => fun sp M => match sp[i]? with
    | some (some (.ref n)) => match lstAt M n with
      | some xs => .ok (.lst xs) (M.set n none)
      | none => .bad
    | _ => .bad
  | .sset a => fun sp M => (ev a sp M).bind fun p M1 => .ofO (ssetP M1 p) M1
  | .heard f a => fun sp M => heardR T f (ev a sp M)
  | .listR a => fun sp M => (ev a sp M).bind fun p M1 => listRK M1 p
  | .srt a => fun sp M => (ev a sp M).bind fun p M1 => .ofO (srtP M1 p) M1
  | .rev a => fun sp M => (ev a sp M).bind fun p M1 => .ofO (revP M1 p) M1
  | .index o x => fun sp M => (ev o sp M).bind fun p M1 => if (itemsL M1 p).isSome = true then (ev x sp M1).bind fun q M2 => .ofO (indexP M2 p q) M2 else .bad
  | .fld a f => fun sp M => (ev a sp M).bind fun p M1 => .ofO (fldP T M1 p f) M1
  | .newI c n j es => fun sp M => (evs es sp M).bind fun ps M1 => newK Γ c n (T.fnm.length + j) ps M1
  | .mcall a m es => fun sp M => (ev a sp M).bind fun p M1 => match methP T M1 p m with
    | some f => (evs es sp M1).bind fun ps M2 => Γ f (p :: ps) M2
    | none => .bad
  | .dctN => fun sp M => .ok (.ref M.length) (M ++ [some (.dct [])])
  | .getD o k d => fun sp M => (ev o sp M).bind fun p M1 => if isDP M1 p = true then (ev k sp M1).bind fun q M2 => (ev d sp M2).bind fun z M3 => .ofO ((getDP M3 p q).map fun r => r.getD z) M3 else .bad
  | .inD ng k o => fun sp M => (ev k sp M).bind fun q M1 => (ev o sp M1).bind fun p M2 => .ofO (inDP ng M2 p q) M2
  | .idxD o k => fun sp M => (ev o sp M).bind fun p M1 => (ev k sp M1).bind fun q M2 => .ofO ((getDP M2 p q).bind id) M2
  | .comp own tg it cd elt => fun sp M => (evI it sp M).bind fun J M1 =>
      (compR J.gd (fun x M2 => match asg tg x (wipeP sp (own.map (·.2))) with
        | some sp1 => match evC cd sp1 M2 with
          | .ok true M3 => (ev elt sp1 M3).bind fun y M4 => .ok (some y) M4
          | .ok false M3 => .ok none M3
          | _ => .bad
        | none => .bad) J.items M1).bind fun ys M2 => .ok (.lst ys) M2
/-- a part of a slice -/
noncomputable def evO : Option CE → Ev (Option Int)
  | none => fun _ M => .ok none M
  | some c => fun sp M => (ev c sp M).bind fun p M1 => match p with
    | .int n => .ok (some n) M1
    | _ => .bad
/-- a block's test -/
noncomputable def evC : Option CE → Ev Bool
  | none => fun _ M => .ok true M
  | some c => fun sp M => (ev c sp M).bind fun p M1 => match p with
    | .bl b => .ok b M1
    | _ => .bad
noncomputable def evs : CEs → Ev (List PV)
  | .nil => fun _ M => .ok [] M
  | .cons e r => fun sp M => (ev e sp M).bind fun p M1 => (evs r sp M1).bind fun ps M2 => .ok (p :: ps) M2
  | .star e r => fun sp M => (ev e sp M).bind fun p M1 => match p with
    | .tup xs => (evs r sp M1).bind fun ps M2 => .ok (xs ++ ps) M2
    | .lst xs => (evs r sp M1).bind fun ps M2 => .ok (xs ++ ps) M2
    | _ => .bad
noncomputable def evAnd : CEs → Ev PV
  | .cons e .nil => fun sp M => ev e sp M
  | .cons e r => fun sp M => (ev e sp M).bind (andK (evAnd r sp))
  | _ => fun _ _ => .bad
noncomputable def evOr : CEs → Ev PV
  | .cons e .nil => fun sp M => ev e sp M
  | .cons e r => fun sp M => (ev e sp M).bind (orK (evOr r sp))
  | _ => fun _ _ => .bad
noncomputable def evI : CI → Ev ItV
  | .seq e => fun sp M => (ev e sp M).bind fun p M1 => .ofO (seqIt M1 p) M1
  | .rng1 a => fun sp M => (ev a sp M).bind fun p M1 => match p with
    | .int n => .ofO (rngIt 0 n) M1
    | _ => .bad
  | .rng2 a b => fun sp M => (ev a sp M).bind fun p M1 => (ev b sp M1).bind fun q M2 => match p, q with
    | .int i, .int j => .ofO (rngIt i j) M2
    | _, _ => .bad
  | .rng3 a b c => fun sp M => (ev a sp M).bind fun p M1 => (ev b sp M1).bind fun q M2 => (ev c sp M2).bind fun r M3 => match p, q, r with
    | .int i, .int j, .int k => .ofO (rngIt3 i j k) M3
    | _, _, _ => .bad
  | .enum e => fun sp M => (ev e sp M).bind fun p M1 => match seqIt M1 p with
    | some J => .ok ⟨enumL J.items, J.gd⟩ M1
    | none => .bad
  | .zip a b => fun sp M => (ev a sp M).bind fun p M1 => (ev b sp M1).bind fun q M2 => match seqIt M2 p, seqIt M2 q with
    | some J, some J' => .ok ⟨zipL J.items J'.items, J.gd ++ J'.gd⟩ M2
    | _, _ => .bad
  | .zip3 a b c => fun sp M => (ev a sp M).bind fun p M1 => (ev b sp M1).bind fun q M2 => (ev c sp M2).bind fun r M3 => match seqIt M3 p, seqIt M3 q, seqIt M3 r with
    | some J, some J', some J'' => .ok ⟨zipL3 J.items J'.items J''.items, J.gd ++ (J'.gd ++ J''.gd)⟩ M3
    | _, _, _ => .bad
end

/-! ### statements -/
/-- a target that may change an object -/
inductive UT where
  | name (i : Nat)
  | fld (o : CE) (f : Str)
  | sub (o i : CE)
mutual
inductive CS where
  | asg (t : CT) (e : CE)
  | asgC (i : Nat) (own : List (Str × Nat)) (tg : CT) (it : CI) (cd : Option CE) (elt : CE)
  | par (ts : List Nat) (es : CEs)
  | asgI (o i e : CE)
  | setF (o : CE) (f : Str) (e : CE)
  | putD (o i e : CE)
  | asgU (ts : List UT) (e : CE)
  | aug (i : Nat) (op : Operator) (e : CE)
  | augI (o i : CE) (op : Operator) (e : CE)
  | expr (e : CE)
  | ret (e : CE) | retN
  | ite (c : CE) (a b : CSs)
  | forS (t : CT) (it : CI) (body : CSs)
  | whileS (c : CE) (body : CSs)
  | raise (c : Nat) (es : CEs)
  | tryS (body : CSs) (hs : List HC)
  | pass | brk | cnt
inductive CSs where
  | nil
  | cons (s : CS) (r : CSs)
end
def SRes.ofR {α : Type} (r : Res α) (sp : Sl) (k : α → Store → SRes) : SRes := match r with
  | .ok a M => k a M
  | .exc x M => .exc x sp M
  | .bad => .bad
def SRes.seq (r : SRes) (k : Ex) : SRes := match r with
  | .nx sp M => k sp M
  | r => r
open Classical in
noncomputable def gdIfS (M : Store) (gd : List (Nat × List PV)) (r : SRes) : SRes := if gdOk M gd then r else .bad
theorem gdIfS_nil (M : Store) (r : SRes) : gdIfS M [] r = r := by
  unfold gdIfS
  rw [if_pos ((gdOk_nil M).mpr trivial)]
noncomputable def forR (gd : List (Nat × List PV)) (b : PV → Sl → Option Sl) (body : Ex) : List PV → Ex
  | [], sp, M => gdIfS M gd (.nx sp M)
  | x :: xs, sp, M => gdIfS M gd (match b x sp with
    | none => .bad
    | some sp1 => match body sp1 M with
      | .nx sp2 M2 => forR gd b body xs sp2 M2
      | .cnt sp2 M2 => forR gd b body xs sp2 M2
      | .brk sp2 M2 => .nx sp2 M2
      | r => r)
/-- one turn of a while, then k -/
def whileK (c : Ev Bool) (body k : Ex) : Ex := fun sp M => .ofR (c sp M) sp fun b M1 => if b = true then (match body sp M1 with
    | .nx sp2 M2 => k sp2 M2
    | .cnt sp2 M2 => k sp2 M2
    | .brk sp2 M2 => .nx sp2 M2
    | r => r) else .nx sp M1
def whileN (c : Ev Bool) (body : Ex) : Nat → Ex
  | 0 => fun _ _ => .bad
  | n + 1 => whileK c body (whileN c body n)
open Classical in
noncomputable def whileR (c : Ev Bool) (body : Ex) : Ex := fun sp M => if h : ∃ n, whileN c body n sp M ≠ .bad then whileN c body (choose h) sp M else .bad
theorem whileN_succ {c : Ev Bool} {body : Ex} : ∀ {n : Nat} {sp : Sl} {M : Store}, whileN c body n sp M ≠ .bad → whileN c body (n + 1) sp M = whileN c body n sp M
  | 0, _, _, h => (h rfl).elim
  | n + 1, sp, M, h => by
    have ih := fun sp M => @whileN_succ c body n sp M
    revert h
    show whileK c body (whileN c body n) sp M ≠ .bad → whileK c body (whileN c body (n + 1)) sp M = whileK c body (whileN c body n) sp M
    unfold whileK SRes.ofR
    cases c sp M with
    | ok b M1 =>
      dsimp only
      cases b with
      | true =>
        rw [if_pos rfl, if_pos rfl]
        cases body sp M1 with
        | nx sp2 M2 => exact ih sp2 M2
        | cnt sp2 M2 => exact ih sp2 M2
        | _ => exact fun _ => rfl
      | false => exact fun _ => rfl
    | exc x M1 => exact fun _ => rfl
    | bad => exact fun _ => rfl
theorem whileN_add {c : Ev Bool} {body : Ex} {n : Nat} {sp : Sl} {M : Store} (h : whileN c body n sp M ≠ .bad) : ∀ m, whileN c body (n + m) sp M = whileN c body n sp M
  | 0 => rfl
  | m + 1 => by
    have e := whileN_add h m
    rw [← Nat.add_assoc, whileN_succ (by rw [e]; exact h), e]
theorem whileR_of {c : Ev Bool} {body : Ex} {n : Nat} {sp : Sl} {M : Store} (h : whileN c body n sp M ≠ .bad) : whileR c body sp M = whileN c body n sp M := by
  have hx : ∃ n, whileN c body n sp M ≠ .bad := ⟨n, h⟩
  unfold whileR
  rw [dif_pos hx]
  have hc := Classical.choose_spec hx
  generalize Classical.choose hx = k at hc ⊢
  rcases Nat.le_total k n with z | z
  · obtain ⟨m, rfl⟩ := Nat.exists_eq_add_of_le z
    exact (whileN_add hc m).symm
  · obtain ⟨m, rfl⟩ := Nat.exists_eq_add_of_le z
    exact whileN_add h m
theorem whileR_bad {c : Ev Bool} {body : Ex} {sp : Sl} {M : Store} (h : ∀ n, whileN c body n sp M = .bad) : whileR c body sp M = .bad := by
  unfold whileR
  rw [dif_neg (fun ⟨n, z⟩ => z (h n))]
/-- a while is one turn, then the while -/
theorem whileR_unfold (c : Ev Bool) (body : Ex) (sp : Sl) (M : Store) : whileR c body sp M = whileK c body (whileR c body) sp M := by
  have key : ∀ (sp2 : Sl) (M2 : Store), (∃ n, whileN c body n sp2 M2 ≠ .bad ∧ whileR c body sp2 M2 = whileN c body n sp2 M2) ∨ ((∀ n, whileN c body n sp2 M2 = .bad) ∧ whileR c body sp2 M2 = .bad) := fun sp2 M2 => by
    by_cases h : ∃ n, whileN c body n sp2 M2 ≠ .bad
    · obtain ⟨n, h⟩ := h
      exact .inl ⟨n, h, whileR_of h⟩
    · have h' : ∀ n, whileN c body n sp2 M2 = .bad := fun n => Classical.byContradiction fun z => h ⟨n, z⟩
      exact .inr ⟨h', whileR_bad h'⟩
  have main : (∀ k : Ex, whileK c body k sp M = whileK c body (whileR c body) sp M) ∨ ∃ sp2 M2, ∀ k : Ex, whileK c body k sp M = k sp2 M2 := by
    unfold whileK SRes.ofR
    cases c sp M with
    | ok b M1 =>
      dsimp only
      cases b with
      | true =>
        simp only [if_true]
        cases body sp M1 with
        | nx sp2 M2 => exact .inr ⟨sp2, M2, fun _ => rfl⟩
        | cnt sp2 M2 => exact .inr ⟨sp2, M2, fun _ => rfl⟩
        | _ => exact .inl fun _ => rfl
      | false => exact .inl fun _ => rfl
    | exc x M1 => exact .inl fun _ => rfl
    | bad => exact .inl fun _ => rfl
  rcases main with h | ⟨sp2, M2, h⟩
  · have e : whileN c body 1 sp M = whileK c body (whileR c body) sp M := h _
    by_cases hb : whileN c body 1 sp M = .bad
    · rw [← e, hb]
      refine whileR_bad fun n => ?_
      cases n with
      | zero => rfl
      | succ n => exact (h _).trans (e.symm.trans hb)
    · rw [whileR_of hb, e]
  · rw [h (whileR c body)]
    rcases key sp2 M2 with ⟨n, h1, h2⟩ | ⟨h1, h2⟩
    · have e : whileN c body (n + 1) sp M = whileN c body n sp2 M2 := h _
      rw [whileR_of (n := n + 1) (by rw [e]; exact h1), e, h2]
    · rw [h2]
      refine whileR_bad fun n => ?_
      cases n with
      | zero => rfl
      | succ n => exact (h _).trans (h1 n)

def setP (M : Store) (o i v : PV) : Option Store := match o, i with
  | .ref n, .int k => match lstAt M n with
    | some xs => match ixN xs.length k with
      | some j => some (M.set n (some (.lst (xs.set j v))))
      | none => none
    | none => none
  | _, _ => none
/-- in place, of ints -/
def augP (op : Operator) (M : Store) (p q : PV) : Option PV := match p, q with
  | .int i, .int j => match op with
    | .Add => some (.int (i + j))
    | .Sub => some (.int (i - j))
    | .Mult => if (decide (-2 ^ 64 < j) && decide (j < 2 ^ 64)) = true then some (.int (i * j)) else none
    | _ => none
  | _, _ => none
def evTr (r : Res PV) : Res Bool := r.bind fun p M1 => match p with
  | .bl b => .ok b M1
  | _ => .bad
def asgK (t : CT) (sp : Sl) : PV → Store → SRes := fun p M1 => match asg t p sp with
  | some sp' => .nx sp' M1
  | none => .bad
def parK (ts : List Nat) (sp : Sl) : List PV → Store → SRes := fun ps M1 => match asgs (ts.map .name) ps sp with
  | some sp' => .nx sp' M1
  | none => .bad
def setK (sp : Sl) (v p q : PV) (M : Store) : SRes := match setP M p q v with
  | some M4 => .nx sp M4
  | none => .bad
def augK (op : Operator) (i : Nat) (sp : Sl) (p : PV) : PV → Store → SRes := fun q M1 => match augP op M1 p q with
  | some r => .nx (sp.set i (some r)) M1
  | none => .bad
def augIK (op : Operator) (sp : Sl) (ce : Ev PV) (p k : PV) (M2 : Store) : SRes := match idxP M2 p k with
  | some old => .ofR (ce sp M2) sp fun q M3 => match augP op M3 old q with
    | some r => setK sp r p k M3
    | none => .bad
  | none => .bad
def isRef : PV → Bool
  | .ref _ => true
  | _ => false
def setFK (T : Tab) (sp : Sl) (v p : PV) (f : Str) (M : Store) : SRes := match setFP T M p f v with
  | some M3 => .nx sp M3
  | none => .bad
def putK' (sp : Sl) (v p q : PV) (M : Store) : SRes := match putDP M p q v with
  | some M3 => .nx sp M3
  | none => .bad
def nameK (i : Nat) (sp : Sl) (p : PV) (M : Store) : SRes := if i < sp.length then .nx (sp.set i (some p)) M else .bad
noncomputable def asg1U : UT → PV → Ex
  | .name i, p => fun sp M => nameK i sp p M
  | .fld o f, p => fun sp M => .ofR (ev T Γ o sp M) sp fun q M1 => setFK T sp p q f M1
  | .sub o i, p => fun sp M => .ofR (ev T Γ o sp M) sp fun q M1 => .ofR (ev T Γ i sp M1) sp fun k M2 => setK sp p q k M2
noncomputable def asgUs : List UT → List PV → Ex
  | [], [] => fun sp M => .nx sp M
  | t :: ts, p :: ps => fun sp M => (asg1U T Γ t p sp M).seq (asgUs ts ps)
  | _, _ => fun _ _ => .bad
noncomputable def asgUK (ts : List UT) (sp : Sl) : PV → Store → SRes := fun p M1 => match p with
  | .tup ps => if ps.length = ts.length then asgUs T Γ ts ps sp M1 else .bad
  | _ => .bad
mutual
noncomputable def ex : CS → Ex
  | .asg t e => fun sp M => .ofR (ev T Γ e sp M) sp (asgK t sp)
  | .asgC i own tg it cd elt => fun sp M => .ofR (ev T Γ (.comp own tg it cd elt) sp M) sp (asgK (.name i) sp)
  | .par ts es => fun sp M => .ofR (evs T Γ es sp M) sp (parK ts sp)
  | .asgI o i e => fun sp M => .ofR (ev T Γ e sp M) sp fun v M1 => .ofR (ev T Γ o sp M1) sp fun p M2 => .ofR (ev T Γ i sp M2) sp fun q M3 => setK sp v p q M3
  | .setF o f e => fun sp M => .ofR (ev T Γ e sp M) sp fun v M1 => .ofR (ev T Γ o sp M1) sp fun p M2 => setFK T sp v p f M2
  | .asgU ts e => fun sp M => .ofR (ev T Γ e sp M) sp (asgUK T Γ ts sp)
  | .putD o i e => fun sp M => .ofR (ev T Γ e sp M) sp fun v M1 => .ofR (ev T Γ o sp M1) sp fun p M2 => .ofR (ev T Γ i sp M2) sp fun q M3 => putK' sp v p q M3
  | .aug i op e => fun sp M => match sp[i]? with
    | some (some p) => .ofR (ev T Γ e sp M) sp (augK op i sp p)
    | _ => .bad
  | .augI o i op e => fun sp M => .ofR (ev T Γ o sp M) sp fun p M1 => .ofR (ev T Γ i sp M1) sp fun k M2 => if isRef p = true then augIK op sp (ev T Γ e) p k M2 else .bad
  | .expr e => fun sp M => .ofR (ev T Γ e sp M) sp fun _ M1 => .nx sp M1
  | .ret e => fun sp M => .ofR (ev T Γ e sp M) sp fun p M1 => .ret p M1
  | .retN => fun _ M => .ret .non M
  | .ite c a b => fun sp M => .ofR (evTr (ev T Γ c sp M)) sp fun t M1 => if t = true then exs a sp M1 else exs b sp M1
  | .forS t it body => fun sp M => .ofR (evI T Γ it sp M) sp fun J M1 => forR J.gd (asg t) (exs body) J.items sp M1
  | .whileS c body => whileR (fun sp M => evTr (ev T Γ c sp M)) (exs body)
  | .raise c es => fun sp M => .ofR (evs T Γ es sp M) sp fun ps M1 => .exc ⟨c, ps, false⟩ sp M1
  | .tryS body hs => fun sp M => match exs body sp M with
    | .exc x sp1 M1 => runH T.exm x sp1 M1 hs
    | r => r
  | .pass => fun sp M => .nx sp M
  | .brk => fun sp M => .brk sp M
  | .cnt => fun sp M => .cnt sp M
noncomputable def exs : CSs → Ex
  | .nil => fun sp M => .nx sp M
  | .cons s r => fun sp M => (ex s sp M).seq (exs r)
end
/-! ### defs -/
structure FnC where
  ar : Nat
  names : List Str
  body : CSs
mutual
/-- no store object from n on is named -/
def okRef (n : Nat) : PV → Bool
  | .ref k => decide (k < n)
  | .tup xs => okRefs n xs
  | .lst xs => okRefs n xs
  | _ => true
def okRefs (n : Nat) : List PV → Bool
  | [] => true
  | x :: xs => okRef n x && okRefs n xs
end
def okObj (n : Nat) : Option SObj → Bool
  | none => true
  | some (.lst xs) => okRefs n xs
  | some (.ins _ fs) => fs.all fun o => match o with
    | some p => okRef n p
    | none => true
  | some (.dct kvs) => okRefs n (kvs.map (·.2))
/-- what a def made and nobody names is let go -/
def gcM (n : Nat) (M : Store) (ps : List PV) : Store :=
  if M.length ≤ n then M else if (okRefs n ps && (M.take n).all (okObj n)) = true then M.take n else M
noncomputable def runF (c : FnC) (ps : List PV) (M : Store) : Res PV :=
  if ps.length = c.ar then
    match exs T Γ c.body (ps.map some ++ List.replicate (c.names.length - c.ar) none) M with
    | .nx _ M' => .ok .non (gcM M.length M' [])
    | .ret p M' => .ok p (gcM M.length M' [p])
    | .exc x _ M' => .exc x (gcM M.length M' x.fs)
    | _ => .bad
  else .bad
/-- all defs, to a depth of calls -/
noncomputable def Fn (T : Tab) (codes : Nat → Option FnC) : Nat → Fns
  | 0 => fun _ _ _ => .bad
  | k + 1 => fun f ps M => match codes f with
    | some c => runF T (Fn T codes k) c ps M
    | none => .bad
end
end DI
set_option maxHeartbeats 2000000
/-! # DI: the syntax's side conditions; what a def promises; expressions -/
namespace DI
open PySem PySem.Spec L2

/-! ### side conditions of the syntax, as tests -/
def notStar : PySem.Expr → Bool
  | .Starred .. => false
  | _ => true
theorem star_cons {e : PySem.Expr} {es : List PySem.Expr} {env : Env} (h : notStar e = true) : starEach (e :: es) env = (false, eval e env) :: starEach es env := by
  cases e <;> first | rfl | cases h
theorem star_none {env : Env} {pos : Pos} : ∀ {es : List PySem.Expr}, es.all notStar = true → (backTo pos (starEach es env)).any (·.1) = false
  | [], _ => rfl
  | e :: es, h => by
    rw [List.all_cons, Bool.and_eq_true] at h
    rw [star_cons h.1]
    show (false || (backTo pos (starEach es env)).any (·.1)) = false
    rw [star_none h.2]
    rfl
def notSlice : PySem.Expr → Bool
  | .Slice .. => false
  | _ => true
theorem plainIx_of {e : PySem.Expr} (h : notSlice e = true) : PlainIx e := fun _ _ => by
  cases e <;> first | rfl | cases h
def notSet : PySem.Expr → Bool
  | .Set .. => false
  | _ => true
theorem behind_of {op : CmpOp} {e : PySem.Expr} (h : notSet e = true) : behindInMarks op e = false := by
  cases e <;> first | rfl | cases h
theorem folded_of {e : PySem.Expr} {env : Env} (h : notSet e = true) : ∀ x, foldedSetIterable e env x = pure x := fun x => by
  cases e <;> first | rfl | cases h
def plainT : PySem.Expr → Bool
  | .UnaryOp .. => false
  | .BoolOp .. => false
  | .IfExp .. => false
  | .Compare .. => false
  | _ => true
theorem isTrue_of {e : PySem.Expr} {env : Env} (h : plainT e = true) : ∀ whole, isTrue e env whole = (do let v ← whole; standAt e.pos; holding [v] (truthy v)) := fun whole => by
  cases e <;> first | rfl | cases h
def notCall : PySem.Expr → Bool
  | .Call .. => false
  | _ => true
theorem base_of {e : PySem.Expr} {f : Str} {env : Env} {whole : Sem Value} (h : notCall e = true) : attributeBase e f env whole = whole := by
  cases e <;> first | rfl | cases h
def notComp : PySem.Expr → Bool
  | .ListComp .. => false
  | .SetComp .. => false
  | .DictComp .. => false
  | _ => true
theorem swaps_of {e : PySem.Expr} {t : Option PySem.Expr} {l : Nat} {env : Env} (h : notComp e = true) : swapsWith e t l env = pure false := by
  cases e <;> first | rfl | cases h

/-! ### what a def promises -/
structure XK where
  n : L2.XK
  c : L2.XK
def XK.at (E : XK) : Bool → L2.XK
  | false => E.n
  | true => E.c
def WEx (W : WX) (σ : St) : XK := ⟨L2.WE W.n σ, L2.WE W.c σ⟩
theorem WEx_at {W : WX} {σ : St} {b : Bool} {cls : Value} {d : Option Addr} {H : Hp} : (WEx W σ).at b cls d H = W.at b cls d σ H := by cases b <;> rfl
abbrev Sp := List V → Hp → VK → XK → Prop
/-- an exception is let out: one that bears none, or any -/
def CX2 (P : Program) (w : World) (EN : L2.XK) : CXT := fun outer H s E u s' => L2N.CX P w outer H s EN u s' ∨ L2.CX P w outer H s E u s'
def PostF (G : Gd) (M : Store) (ι : List Addr) (H : Hp) (Q : VK) (E : XK) : Res PV → Prop
  | .ok p M' => ∀ ι' H' v, MRel G M' ι' H' → Ext M ι H M' ι' H' → Rp G ι' H' (Own M' ι') p v → Q v H'
  | .exc x M' => ∀ ι' H' cv d, MRel G M' ι' H' → Ext M ι H M' ι' H' → XRep G ι' H' (Own M' ι') x cv d → E.at x.hot cv d H'
  | .bad => False
def spD (G : Gd) (g : List PV → Store → Res PV) : Sp := fun vs H Q E => ∃ M ι ps, MRel G M ι H ∧ Rps G ι H (Own M ι) ps vs ∧ PostF G M ι H Q E (g ps M)
theorem PostF.ofE {G : Gd} {W : WX} {σ : St} {M : Store} {ι : List Addr} {H : Hp} {Q : VK} {r : Res PV} (h : PostE G W σ M ι H Q r) : PostF G M ι H Q (WEx W σ) r := by
  cases r with
  | ok p M' => exact h
  | exc x M' => exact fun ι' H' cv d a b c => by rw [WEx_at]; exact h ι' H' cv d a b c
  | bad => exact h
/-- room for k calls, no repr going on -/
structure RoomG (k : Nat) (A : Around) : Prop where
  room : Room (4 * k + 4) A
  g : A.guards = some []
/-- room for a call -/
structure RoomF (k : Nat) (A : Around) : Prop where
  room : Room (4 * k + 3) A
  g : A.guards = some []
theorem RoomG.f {k : Nat} {A : Around} (r : RoomG k A) : RoomF k A := ⟨r.room.mono (by omega), r.g⟩
theorem RoomF.deeper {k : Nat} {A : Around} (r : RoomF (k + 1) A) (env : Env) : RoomG k (A.deeper env) := ⟨(r.room.mono (by omega : 4 * k + 4 + 1 ≤ 4 * (k + 1) + 3)).deeper env, r.g⟩
/-- a def keeps a promise, at most k calls deep -/
structure FnD (P : Program) (w : World) (K : PySem.W.Frag) (mg : Str → Option Value) (base : Heap) (k : Nat) (f : Addr) (sp : Sp) : Prop where
  keep : PySem.W.keepIn K (.ref f) = true
  run : ∀ (A : Around) (outer : List Env) (s : Shared) (H : Hp) (us : List Value) (vs : List V) (Q : VK) (E : XK), RoomF k A → Env0 P w K mg base A outer s H → Vals vs us → sp vs H Q E →
    codeAny (model P w) A (.call (.ref f) ⟨us, []⟩) (CR (CX2 P w E.n) outer P w H s Q E.c) s
/-- here lambdas may be made -/
structure LamOk (k : Nat) (c P : Addr) (q : Str) (X : Cx) : Prop where
  room : Room (4 * k + 6) X.A
  code : X.env.code = .ref c
  qual : X.env.qual ++ "<lambda>" = q
  tab : LamX.TabB X.base X.mg c P
/-- where the def of this number lies: a def of the module, or a method of a class of it -/
def FAt (G : Gd) (f : Nat) (a : Addr) : Prop := (∃ x, G.fnm f = some x ∧ G.mg x = some (.ref a)) ∨ (∃ c m nm fn C, G.mtd f = some (c, m) ∧ G.cnm c = some (nm, fn) ∧ G.mg nm = some (.ref C) ∧ PySem.W.findIn G.K (.ref C) m = some (some (.ref a)))
/-- the context of a piece of code: its names and scope, the defs that may be called -/
structure Good (G : Gd) (Γ : Fns) (N : List Str) (sc : Scope) (fb : Str → Bool) (X : Cx) : Prop where
  hK : X.K = G.K
  hmg : X.mg = G.mg
  hP : X.prog = G.P
  hN : X.N = N
  nd : N.Nodup
  hs : X.env.scope = sc
  calm : X.calm = true
  gds : X.A.guards = some []
  un : X.A.units + 66 < cLine
  st : ∀ x, fb x = true → X.fn x = true
  fns : ∃ k, RoomG k X.A ∧ (∀ (f : Nat) (a : Addr), FAt G f a → FnD X.prog X.w X.K X.mg X.base k a (spD G (Γ f))) ∧ ∀ c P q ns, G.lam = some (c, P, q, ns) → ns = sc.names → LamOk k c P q X
/-- an own exception class whose __init__ writes two fields -/
def ExI (G : Gd) (x f1 f2 : Str) : Prop := ∃ (C fI : Addr) (fd : FuncData) (ps : List Str), G.mg x = some (.ref C) ∧ f1 ≠ f2 ∧ OexC G.K C ∧ XfC G.K C ∧ PySem.W.findIn G.K (.ref C) f1 = some none ∧ PySem.W.findIn G.K (.ref C) f2 = some none ∧
  PySem.W.findIn G.K (.ref C) "__init__" = some (some (.ref fI)) ∧ PySem.W.typeIn G.K (.ref fI) = some (.type "function") ∧ L2.Binds G.K fd ps [] ∧ ∀ (w : World) (base : Heap), FnOk G.P w G.K G.mg base noCX 1 fI fd ps (sp2 C f1 f2)
def visB (sc : Scope) (x : Str) : Bool := match sc.names.lookup x with
  | some .local => true
  | some .cell => true
  | some .free => true
  | _ => false
theorem vis_of {sc : Scope} {x : Str} (h : visB sc x = true) : Vis sc x := by
  unfold visB at h
  split at h
  · exact .inl (by assumption)
  · exact .inr (.inl (by assumption))
  · exact .inr (.inr (by assumption))
  · cases h
def locB (sc : Scope) (x : Str) : Bool := match sc.names.lookup x with
  | some .local => true
  | some .cell => true
  | _ => false
theorem loc_of {sc : Scope} {x : Str} (h : locB sc x = true) : Loc sc x := by
  unfold locB at h
  split at h
  · exact .inl (by assumption)
  · exact .inr (by assumption)
  · cases h
def glB (sc : Scope) (x : Str) : Bool := decide (sc.names.lookup x = some .globalImplicit)
def dbgB (x : Str) : Bool := !(x == ("__debug__" : Str)) && !(x == ("__classdict__" : Str))
theorem dbg1 {x : Str} (h : dbgB x = true) : (x == ("__debug__" : Str)) = false := by
  unfold dbgB at h
  simp only [Bool.and_eq_true, Bool.not_eq_true'] at h
  exact h.1
theorem dbg2 {x : Str} (h : dbgB x = true) : (x == ("__classdict__" : Str)) = false := by
  unfold dbgB at h
  simp only [Bool.and_eq_true, Bool.not_eq_true'] at h
  exact h.2

/-! ### the words of a def -/
def dArgs (s : PySem.Stmt) : Arguments := match s with
  | .FunctionDef _ a _ _ _ _ _ _ _ _ => a
  | _ => { posonlyargs := [], args := [], vararg := none, kwonlyargs := [], kw_defaults := [], kwarg := none, defaults := [] }
def dBody (s : PySem.Stmt) : List PySem.Stmt := match s with
  | .FunctionDef _ _ b _ _ _ _ _ _ _ => b
  | _ => []
def dScope (s : PySem.Stmt) : Scope := match s with
  | .FunctionDef _ _ _ _ _ _ sc _ _ _ => sc
  | _ => { kind := .function, names := [], isGenerator := false, isCoroutine := false }
structure DDef (K : PySem.W.Frag) (mg : Str → Option Value) (x : Str) (st : PySem.Stmt) (f : Addr) : Prop where
  ex : ∃ (oc : Value) (od : Option Addr) (kV doc pm : Value) (an : Option Addr) (cdv ct : Value) (osl : Array (Option Value)),
    K.lookup f = some ⟨oc, od, .func (PySem.W.fnOf x x (dArgs st) (dBody st) (dScope st) .none kV doc pm an cdv ct), osl⟩ ∧ PySem.W.codeIn K cdv x = true
  mgf : mg x = some (.ref f)
  kp : PySem.W.keepIn K (.ref f) = true
/-- a def by its address: its name and its qualified name -/
structure FDef (K : PySem.W.Frag) (m x : Str) (st : PySem.Stmt) (f : Addr) : Prop where
  ex : ∃ (oc : Value) (od : Option Addr) (kV doc pm : Value) (an : Option Addr) (cdv ct : Value) (osl : Array (Option Value)),
    K.lookup f = some ⟨oc, od, .func (PySem.W.fnOf m x (dArgs st) (dBody st) (dScope st) .none kV doc pm an cdv ct), osl⟩ ∧ PySem.W.codeIn K cdv x = true
  kp : PySem.W.keepIn K (.ref f) = true
theorem DDef.fdef {K : PySem.W.Frag} {mg : Str → Option Value} {x : Str} {st : PySem.Stmt} {f : Addr} (h : DDef K mg x st f) : FDef K x x st f := ⟨h.ex, h.kp⟩
def DBindsQ (m x : Str) (st : PySem.Stmt) (ps : List Str) : Prop :=
  ∀ (kV doc pm : Value) (an : Option Addr) (cdv ct : Value) (us : List Value), us.length = ps.length → bindArgs (PySem.W.fnOf m x (dArgs st) (dBody st) (dScope st) .none kV doc pm an cdv ct) ⟨us, []⟩ = pure (ps.zip us)
def DBinds (x : Str) (st : PySem.Stmt) (ps : List Str) : Prop :=
  ∀ (kV doc pm : Value) (an : Option Addr) (cdv ct : Value) (us : List Value), us.length = ps.length → bindArgs (PySem.W.fnOf x x (dArgs st) (dBody st) (dScope st) .none kV doc pm an cdv ct) ⟨us, []⟩ = pure (ps.zip us)
/-! ### except suites: code and words -/
mutual
def chkHE (fs : List Str) (nm : Option Str) (h : HE) (e : PySem.Expr) : Bool := match h with
  | .non => match e with
    | .Constant .none _ _ => true
    | _ => false
  | .bl b => match e with
    | .Constant (.bool d) _ _ => decide (b = d)
    | _ => false
  | .int i => match e with
    | .Constant (.int j) _ _ => decide (i = j)
    | _ => false
  | .str s => match e with
    | .Constant (.str z) _ _ => decide (s = z)
    | _ => false
  | .fld i => match e with
    | .Attribute (.Name y _) f _ => decide (nm = some y) && decide (fs[i]? = some f) && dbgB y
    | _ => false
  | .tup hs => match e with
    | .Tuple es _ _ => decide (es.length ≤ 100) && chkHEs fs nm hs es
    | _ => false
def chkHEs (fs : List Str) (nm : Option Str) (hs : List HE) (es : List PySem.Expr) : Bool := match hs with
  | [] => es.isEmpty
  | h :: hs => match es with
    | e :: es => notStar e && chkHE fs nm h e && chkHEs fs nm hs es
    | [] => false
end
def chkHS (fs : List Str) (nm : Option Str) (h : HS) (b : List PySem.Stmt) : Bool := match h with
  | .ret h => match b with
    | [.Return (some e) _] => chkHE fs nm h e
    | _ => false
  | .raise _ => false
  | .cont => match b with
    | [.Continue _] => true
    | _ => false
  | .pass => match b with
    | [.Pass _] => true
    | _ => false
def isRet : HS → Bool
  | .ret _ => true
  | _ => false
def chkH (T : Tab) (N : List Str) (sc : Scope) (h : HC) (hd : ExceptHandler) : Bool := match hd with
  | .ExceptHandler (some (.Tuple [.Name x _, .Name x2 _] _ _)) none (b₀ :: b) _ => decide (h.nm = none) && (match h.c2 with
    | some c2 => (match T.cnm[h.c]? with
      | some (y, _) => decide (x = y)
      | none => false) && (match T.cnm[c2]? with
      | some (y, _) => decide (x2 = y)
      | none => false)
    | none => false) && glB sc x && dbgB x && glB sc x2 && dbgB x2 && chkHS [] none h.su (b₀ :: b)
  | .ExceptHandler (some (.Name x _)) none (b₀ :: b) _ => decide (h.c2 = none) && decide (h.nm = none) && (match T.cnm[h.c]? with
    | some (y, _) => decide (x = y)
    | none => false) && glB sc x && dbgB x && chkHS [] none h.su (b₀ :: b)
  | .ExceptHandler (some (.Name x _)) (some n) (b₀ :: b) _ => decide (h.c2 = none) && (match h.nm with
    | some i => decide (N[i]? = some n)
    | none => false) && decide (sc.names.lookup n = some .local) && T.ex2.any (fun d => decide (d = h.c)) && isRet h.su && (match T.cnm[h.c]? with
    | some (y, fs) => decide (x = y) && chkHS fs (some n) h.su (b₀ :: b)
    | none => false) && glB sc x && dbgB x
  | _ => false
/-- a clause of two classes -/
def chkTy (T : Tab) (sc : Scope) (c : Nat) (c2 : Option Nat) (ty : PySem.Expr) : Bool := match c2 with
  | none => match ty with
    | .Name x _ => (match T.cnm[c]? with
      | some (y, _) => decide (x = y)
      | none => false) && glB sc x && dbgB x
    | _ => false
  | some e => match ty with
    | .Tuple [.Name x _, .Name y _] _ _ => (match T.cnm[c]? with
      | some (z, _) => decide (x = z)
      | none => false) && (match T.cnm[e]? with
      | some (z, _) => decide (y = z)
      | none => false) && glB sc x && dbgB x && glB sc y && dbgB y
    | _ => false
/-- one clause whose suite raises -/
def chkTX (T : Tab) (sc : Scope) (h : HC) (hd : ExceptHandler) : Bool := match h.su with
  | .raise c => match hd with
    | .ExceptHandler (some ty) none [.Raise (some (.Call (.Name x _) [] [] _)) none _] _ => decide (h.nm = none) && chkTy T sc h.c h.c2 ty && (match T.cnm[c]? with
      | some (y, _) => decide (x = y)
      | none => false) && T.ex0.any (fun d => decide (d = c)) && glB sc x && dbgB x
    | _ => false
  | _ => false
def chkHs (T : Tab) (N : List Str) (sc : Scope) : List HC → List ExceptHandler → Bool
  | [], [] => true
  | h :: hs, e :: es => chkH T N sc h e && chkHs T N sc hs es
  | _, _ => false
/-- a def that tries what it got -/
structure HrdSt (T : Tab) (h : HrdC) (st : PySem.Stmt) (a : Str) (N : List Str) : Prop where
  sc : FnScope N [a] (dScope st)
  n : N.length = h.n
  a0 : N[0]? = some a
  lns : T.lns ≠ some (dScope st).names
  dbg : dbgB a = true
  body : ∃ (j k : Nat) (p0 p1 p2 p3 p4 p5 : Pos) (hd : ExceptHandler) (hds : List ExceptHandler), dBody st = [.Try [.Return (some (.Tuple [.Constant (.str h.told) j p0, .Call (.Name a p1) [] [] p2] k p3)) p4] (hd :: hds) [] [] p5] ∧ chkHs T N (dScope st) h.hs (hd :: hds) = true
def HrdOk (T : Tab) (G : Gd) (h : HrdC) : Prop := ∃ (x a : Str) (st : PySem.Stmt) (g : Addr) (N : List Str), T.fnm[h.f]? = some x ∧ dbgB x = true ∧ DDef G.K G.mg x st g ∧ DBinds x st [a] ∧ HrdSt T h st a N
/-- what the tables say holds -/
structure TabOk (T : Tab) (G : Gd) : Prop where
  cst : ∀ (k : Nat) (x : Str) (p : PV), T.cst[k]? = some (x, p) → ∃ u v, G.mg x = some u ∧ RelV v u ∧ ∀ ι H O, Rp G ι H O p v
  fnm : ∀ (f : Nat) (x : Str), T.fnm[f]? = some x → G.fnm f = some x ∧ ∃ a, G.mg x = some (.ref a)
  cnm : ∀ (c : Nat) (x : Str) (fs : List Str), T.cnm[c]? = some (x, fs) → G.cnm c = some (x, fs) ∧ ∃ C, G.mg x = some (.ref C)
  free : ∀ x ∈ T.free, G.mg x = none
  ex0 : ∀ c ∈ T.ex0, ∀ x fs, T.cnm[c]? = some (x, fs) → ∃ (C : Addr) (bmB : List Value) (B newId initId : String), ExcBaseFacts B newId initId bmB ∧ PySem.W.excIn G.K C bmB newId = true ∧ G.mg x = some (.ref C) ∧ PySem.W.keepIn G.K (.ref C) = true ∧
    PySem.W.subIn G.K (.ref C) (.type "BaseException") = some true ∧ PySem.W.typeIn G.K (.ref C) = some (.type "type")
  ex2 : ∀ c ∈ T.ex2, ∀ x fs, T.cnm[c]? = some (x, fs) → ∃ f1 f2, fs = [f1, f2] ∧ ExI G x f1 f2
  hrd : ∀ h ∈ T.hrd, HrdOk T G h
  own : ∀ c ∈ T.own, ∀ x fs C, T.cnm[c]? = some (x, fs) → G.mg x = some (.ref C) → Cls G.K C ∧ (∀ f ∈ fs, NoAttr G.K C f) ∧ fs.Nodup ∧ fs.length ≤ 900
  met : ∀ (j c : Nat) (m : Str), T.mts[j]? = some (c, m) → ∃ x fs C g, T.cnm[c]? = some (x, fs) ∧ c ∈ T.own ∧ G.mg x = some (.ref C) ∧ m ∉ fs ∧ Meth G.K C m g ∧ G.mtd (T.fnm.length + j) = some (c, m) ∧ (m = "__init__" → Mk G.K C g)
  lam : ∀ c P q ns, G.lam = some (c, P, q, ns) → T.lns = some ns
  lamN : ∀ ns, T.lns = some ns → ∃ c P q, G.lam = some (c, P, q, ns)
  exm : ∀ (c d : Nat) (b : Bool), (c, d, b) ∈ T.exm → ∀ (x y : Str) (fs gs : List Str) (C D : Addr), G.cnm c = some (x, fs) → G.cnm d = some (y, gs) → G.mg x = some (.ref C) → G.mg y = some (.ref D) → PySem.W.exmOne G.K (.ref C) (.ref D) = some b
/-! ### calls of defs -/
section
variable {X : Cx} {G : Gd} {W : WX}
theorem run_fnD {pins : List (Addr × Obj)} {σ : St} {H : Hp} {s : Shared} {Q : VK} {k : Nat} {f : Addr} {sp : Sp} {us : List Value} {vs : List V} (F : FnD X.prog X.w X.K X.mg X.base k f sp) (hr : RoomF k X.A) (tk : Takes X W)
    (I : Inv X pins σ H s) (r : Vals vs us) (h : sp vs H Q (WEx W σ)) : wpAny (model X.prog X.w) X.A (call (.ref f) us) (EP X pins σ Q) X.xe s := by
  refine wpAny_call (codeAny_mono (F.run X.A X.stack s H us vs Q (WEx W σ) hr I.env0 r h) fun r s' hq => ?_)
  cases r with
  | error e =>
    rcases hq with hq | hq
    · exact L2N.passAt tk.n σ pins H s e s' I hq
    · exact L2.passAt tk.c σ pins H s e s' I hq
  | ok fl =>
    cases fl with
    | ret u => exact I.after hq
    | next => exact False.elim hq
    | brk => exact False.elim hq
    | cont => exact False.elim hq
/-- e(..) where e's value is a def -/
def tCallD (S : Addr → Sp → Prop) (W : WX) (tf : TE) (t : TA) : TE := fun σ H Q => tf σ H fun v H0 => ∃ f sp, v = .ref f ∧ S f sp ∧ t σ H0 fun vs H1 => sp vs H1 Q (WEx W σ)
theorem pe_callD {S : Addr → Sp → Prop} {k : Nat} {x : Str} {p pos : Pos} {e : PySem.Expr} {es : List PySem.Expr} {tf : TE} {t : TA} (hS : ∀ f sp, S f sp → FnD X.prog X.w X.K X.mg X.base k f sp) (hr : RoomG k X.A) (tk : Takes X W)
    (hf : PE X (.Name x p) tf) (ha : PA X (e :: es) t) (hns : (e :: es).all notStar = true) :
    PE X (.Call (.Name x p) (e :: es) [] pos) (tCallD S W tf t) := by
  refine ⟨fun pins s σ H Q I h => ?_⟩
  refine wpAny_Call_Name_kw (thn (hf.run pins s σ H _ I h) fun u s1 ⟨v, H1, I1, r1, q1⟩ => ?_)
  obtain ⟨f, sp, rfl, hs, ht⟩ := q1
  cases r1
  have F := hS f sp hs
  rw [List.all_cons, Bool.and_eq_true] at hns
  exact PySem.W.callWith_K (h₀ := X.base) I.ok.mod.kin F.keep (thn (ha.run pos pins s1 σ H1 _ I1 ht) fun us s2 ⟨vs, H2, I2, r2, q2⟩ => ⟨I2.kIn, run_fnD F hr.f tk I2 r2 q2⟩) (star_cons hns.1) (star_none hns.2)
theorem pe_callD0 {S : Addr → Sp → Prop} {k : Nat} {x : Str} {p pos : Pos} {tf : TE} (hS : ∀ f sp, S f sp → FnD X.prog X.w X.K X.mg X.base k f sp) (hr : RoomG k X.A) (tk : Takes X W)
    (hf : PE X (.Name x p) tf) : PE X (.Call (.Name x p) [] [] pos) (tCallD S W tf tNil) := by
  refine ⟨fun pins s σ H Q I h => ?_⟩
  refine wpAny_Call_Name_kw (thn (hf.run pins s σ H _ I h) fun u s1 ⟨v, H1, I1, r1, q1⟩ => ?_)
  obtain ⟨f, sp, rfl, hs, ht⟩ := q1
  cases r1
  exact PySem.W.callWith_K0 I1.kIn (hS f sp hs).keep (run_fnD (hS f sp hs) hr.f tk I1 .nil ht)
end
end DI
set_option maxHeartbeats 2000000
/-! # DI: expressions, rule by rule -/
namespace DI
open PySem PySem.Spec L2
section
variable {T : Tab} {G : Gd} {Γ : Fns} {W : WX} {σ : St} {M : Store} {ι : List Addr} {H : Hp}
theorem PostE.ofO {Q : VK} {o : Option PV} (h : PostE G W σ M ι H Q (.ofO o M)) : PostV G M ι H Q o := by
  cases o with
  | none => exact h
  | some p => exact h
theorem LE.two {ca cb : Ev PV} {f : P2} {Q : VK} (h : LE G W (fun sp M => (ca sp M).bind fun p M1 => (cb sp M1).bind fun q M2 => .ofO (f M2 p q) M2) σ H Q) : tOp (LR2 G f) (LE G W ca) (LE G W cb) σ H Q := by
  obtain ⟨M, ι, sp, m, s, post⟩ := h
  exact ⟨M, ι, sp, m, s, post.bind fun p M1 ι1 H1 v m1 e1 r1 post1 => ⟨M1, ι1, sp, m1, s.ext e1, post1.bind fun q M2 ι2 H2 w m2 e2 r2 post2 => ⟨M2, ι2, p, q, m2, r1.ext e2, r2, post2.ofO⟩⟩⟩
theorem LE.one {ca : Ev PV} {f : P1} {Q : VK} (h : LE G W (fun sp M => (ca sp M).bind fun p M1 => .ofO (f M1 p) M1) σ H Q) : tUn (LR1 G f) (LE G W ca) σ H Q := by
  obtain ⟨M, ι, sp, m, s, post⟩ := h
  exact ⟨M, ι, sp, m, s, post.bind fun p M1 ι1 H1 v m1 e1 r1 post1 => ⟨M1, ι1, p, m1, r1, post1.ofO⟩⟩
theorem LA.call {ca : Ev (List PV)} {f : PN} {Q : VK} (h : LE G W (fun sp M => (ca sp M).bind fun ps M1 => .ofO (f M1 ps) M1) σ H Q) : tCB (LRN G f) (LA G W ca) σ H Q := by
  obtain ⟨M, ι, sp, m, s, post⟩ := h
  exact ⟨M, ι, sp, m, s, PostA.bind post fun p M1 ι1 H1 v m1 e1 r1 post1 => ⟨M1, ι1, p, m1, r1, post1.ofO⟩⟩
end
section
variable {T : Tab} {G : Gd} {Γ : Fns} {W : WX} {X : Cx} {pos : Pos} {a b c : PySem.Expr} {ca cb cc : Ev PV}
theorem se_var {i : Nat} {x : Str} (hN : X.N[i]? = some x) (hv : Vis X.env.scope x) (hd : dbgB x = true) : PE X (.Name x pos) (LE G W (ev T Γ (.var i))) := by
  refine (pe_var hN hv (dbg1 hd) (dbg2 hd)).w fun σ H Q h => ?_
  obtain ⟨M, ι, sp, m, s, post⟩ := h
  simp only [ev] at post
  split at post
  · rename_i p hp
    obtain ⟨v, h1, h2⟩ := s.at_ i p hp
    exact ⟨v, h1, post ι H v m .refl h2⟩
  · exact post.elim
theorem se_const {k : Const} {j : Nat} {v : V} {p : PV} (h0 : PE X (.Constant k j pos) (tC v)) (hr : ∀ G ι H O, Rp G ι H O p v) {cp : Ev PV} (hc : ∀ sp M, cp sp M = .ok p M) : PE X (.Constant k j pos) (LE G W cp) := by
  refine h0.w fun σ H Q h => ?_
  obtain ⟨M, ι, sp, m, s, post⟩ := h
  rw [hc] at post
  exact post ι H v m .refl (hr _ _ _ _)
theorem se_globV {x : Str} {u : Value} {v : V} {p : PV} (hg : Gl X x) (hm : X.mg x = some u) (r : RelV v u) (hd : dbgB x = true) (hr : ∀ ι H O, Rp G ι H O p v) {cp : Ev PV} (hc : ∀ sp M, cp sp M = .ok p M) : PE X (.Name x pos) (LE G W cp) := by
  refine (pe_glob hg hm r (dbg1 hd)).w fun σ H Q h => ?_
  obtain ⟨M, ι, sp, m, s, post⟩ := h
  rw [hc] at post
  exact post ι H v m .refl (hr _ _ _)
theorem se_bty {x : Str} {n : String} (hg : Gl X x) (hm : X.mg x = none) (hv : bootBuiltins x = some (.type n)) (hn : x ≠ "__name__") (hd : dbgB x = true) : PE X (.Name x pos) (LE G W (ev T Γ (.bty n))) := by
  refine (pe_bltn (v := .ty n) hg hm hv rfl hn (dbg1 hd)).w fun σ H Q h => ?_
  obtain ⟨M, ι, sp, m, s, post⟩ := h
  simp only [ev] at post
  exact post ι H _ m .refl (.ty n)
theorem se_neg (ha : PE X a (LE G W ca)) : PE X (.UnaryOp .USub a pos) (LE G W fun sp M => (ca sp M).bind fun p M1 => .ofO (negP M1 p) M1) :=
  (pe_un pr_neg ha).w fun σ H Q h => h.one
theorem se_not (ha : PE X a (LE G W ca)) : PE X (.UnaryOp .Not a pos) (LE G W fun sp M => (ca sp M).bind fun p M1 => match p with | .bl b => .ok (.bl (!b)) M1 | _ => .bad) := by
  refine (pe_not ha).w fun σ H Q h => ?_
  obtain ⟨M, ι, sp, m, s, post⟩ := h
  refine ⟨M, ι, sp, m, s, post.bind fun p M1 ι1 H1 v m1 e1 r1 post1 => ?_⟩
  cases p with
  | bl b => cases r1; exact ⟨b, rfl, post1 ι1 H1 _ m1 .refl (.bl _)⟩
  | _ => exact post1.elim
theorem se_bin (hK : X.K = G.K) {op : Operator} (ha : PE X a (LE G W ca)) (hb : PE X b (LE G W cb)) : PE X (.BinOp a op b pos) (LE G W fun sp M => (ca sp M).bind fun p M1 => (cb sp M1).bind fun q M2 => .ofO (binP op M2 p q) M2) :=
  (pe_op (pr_bin hK op) ha hb).w fun σ H Q h => h.two
theorem se_cmp (hK : X.K = G.K) (hu : X.A.units + 66 < cLine) {op : CmpOp} (hn : notSet b = true) (ha : PE X a (LE G W ca)) (hb : PE X b (LE G W cb)) : PE X (.Compare a [op] [b] pos) (LE G W fun sp M => (ca sp M).bind fun p M1 => (cb sp M1).bind fun q M2 => .ofO (cmpP op M2 p q) M2) :=
  (pe_cmpR (pr_cmp hK (by omega) op) ha hb (behind_of hn)).w fun σ H Q h => h.two
theorem chain_w {op op2 : CmpOp} {σ : St} {H : Hp} {Q : VK} (h : LE G W (fun sp M => (ca sp M).bind fun p M1 => (cb sp M1).bind fun q M2 => match cmpP op M2 p q with
    | some (.bl true) => (cc sp M2).bind fun r M3 => .ofO (cmpP op2 M3 q r) M3
    | some (.bl false) => .ok (.bl false) M2
    | _ => .bad) σ H Q) : tChain (LR2 G (cmpP op)) (LR2 G (cmpP op2)) (LE G W ca) (LE G W cb) (LE G W cc) σ H Q := by
  obtain ⟨M, ι, sp, m, s, post⟩ := h
  refine ⟨M, ι, sp, m, s, post.bind fun p M1 ι1 H1 v m1 e1 r1 post1 => ⟨M1, ι1, sp, m1, s.ext e1, post1.bind fun q M2 ι2 H2 w m2 e2 r2 post2 => ⟨M2, ι2, p, q, m2, r1.ext e2, r2, ?_⟩⟩⟩
  split at post2
  · rename_i hc
    rw [hc]
    intro ι3 H3 z m3 e3 r3
    cases r3
    refine ⟨true, rfl, ?_⟩
    rw [if_pos rfl]
    have post3 := PostE.from post2 e3
    exact ⟨M2, ι3, sp, m3, ((s.ext e1).ext e2).ext e3, post3.bind fun r M4 ι4 H4 u m4 e4 r4 post4 => ⟨M4, ι4, q, r, m4, (r2.ext e3).ext e4, r4, post4.ofO⟩⟩
  · rename_i hc
    rw [hc]
    intro ι3 H3 z m3 e3 r3
    cases r3
    refine ⟨false, rfl, ?_⟩
    rw [if_neg Bool.false_ne_true]
    exact post2 ι3 H3 _ m3 e3 (.bl _)
  · exact post2.elim
theorem se_cmp2 (hK : X.K = G.K) (hu : X.A.units + 66 < cLine) {op op2 : CmpOp} (ha : PE X a (LE G W ca)) (hb : PE X b (LE G W cb)) (hc : PE X c (LE G W cc)) (hl : lastMarks [op, op2] [b, c] = false) :
    PE X (.Compare a [op, op2] [b, c] pos) (LE G W fun sp M => (ca sp M).bind fun p M1 => (cb sp M1).bind fun q M2 => match cmpP op M2 p q with
    | some (.bl true) => (cc sp M2).bind fun r M3 => .ofO (cmpP op2 M3 q r) M3
    | some (.bl false) => .ok (.bl false) M2
    | _ => .bad) :=
  (pe_chain (pr_cmp hK (by omega) op) (pr_cmp hK (by omega) op2) ha hb hc hl).w fun σ H Q h => chain_w h
theorem se_ife {t : Ev Bool} (hc : PT X c (LT G W t)) (ha : PE X a (LE G W ca)) (hb : PE X b (LE G W cb)) : PE X (.IfExp c a b pos) (LE G W fun sp M => (t sp M).bind fun k M1 => if k = true then ca sp M1 else cb sp M1) := by
  refine (pe_ifExp hc ha hb).w fun σ H Q h => ?_
  obtain ⟨M, ι, sp, m, s, post⟩ := h
  refine ⟨M, ι, sp, m, s, PostT.bind (r := t sp M) (k := fun k M1 => if k = true then ca sp M1 else cb sp M1) post fun k M1 ι1 H1 m1 e1 post1 => ?_⟩
  cases k with
  | true => exact ⟨M1, ι1, sp, m1, s.ext e1, post1⟩
  | false => exact ⟨M1, ι1, sp, m1, s.ext e1, post1⟩
theorem se_idx (hK : X.K = G.K) (hn : notSlice b = true) (ha : PE X a (LE G W ca)) (hb : PE X b (LE G W cb)) : PE X (.Subscript a b pos) (LE G W fun sp M => (ca sp M).bind fun p M1 => (cb sp M1).bind fun q M2 => .ofO (idxP M2 p q) M2) :=
  (pe_ix (pr_idx hK) ha hb (plainIx_of hn)).w fun σ H Q h => h.two
/-! ### arguments, displays -/
theorem sa_nil : PA X [] (LA G W fun _ M => .ok [] M) := pa_nil.w fun σ H Q h => by
  obtain ⟨M, ι, sp, m, s, post⟩ := h
  exact post ι H [] m .refl .nil
theorem sa_cons {es : List PySem.Expr} {cr : Ev (List PV)} (hn : notStar a = true) (ha : PE X a (LE G W ca)) (hr : PA X es (LA G W cr)) : PA X (a :: es) (LA G W fun sp M => (ca sp M).bind fun p M1 => (cr sp M1).bind fun ps M2 => .ok (p :: ps) M2) :=
  (pa_cons ha hr (star_cons hn)).w fun σ H Q h => by
    obtain ⟨M, ι, sp, m, s, post⟩ := h
    exact ⟨M, ι, sp, m, s, PostE.bindA post fun p M1 ι1 H1 v m1 e1 r1 post1 => ⟨M1, ι1, sp, m1, s.ext e1, PostA.bindA (k := fun ps M2 => .ok (p :: ps) M2) post1 fun ps M2 ι2 H2 vs m2 e2 r2 post2 => post2 ι2 H2 _ m2 .refl (.cons (r1.ext e2) r2)⟩⟩
theorem sa_star {es : List PySem.Expr} {cr : Ev (List PV)} {p : Pos} (hK : X.K = G.K) (ha : PE X a (LE G W ca)) (hr : PA X es (LA G W cr)) : PA X (.Starred a p :: es) (LA G W fun sp M => (ca sp M).bind fun p M1 => match p with
    | .tup xs => (cr sp M1).bind fun ps M2 => .ok (xs ++ ps) M2
    | .lst xs => (cr sp M1).bind fun ps M2 => .ok (xs ++ ps) M2
    | _ => .bad) :=
  (StX.pa_star ha hr).w fun σ H Q h => by
    obtain ⟨M, ι, sp, m, s, post⟩ := h
    refine ⟨M, ι, sp, m, s, PostE.bindA post fun p M1 ι1 H1 v m1 e1 r1 post1 => ?_⟩
    split at post1
    · cases r1 with
      | tup h1 h2 h3 => exact ⟨_, _, rfl, .inl (hK ▸ h1.sq), M1, ι1, sp, m1, s.ext e1, PostA.bindA (k := fun ps M2 => .ok (_ ++ ps) M2) post1 fun ps M2 ι2 H2 vs m2 e2 r2 post2 => post2 ι2 H2 _ m2 .refl ((h3.ext e2).append r2)⟩
    · cases r1 with
      | lst h1 h2 h3 => exact ⟨_, _, rfl, .inr (hK ▸ h1.sq), M1, ι1, sp, m1, s.ext e1, PostA.bindA (k := fun ps M2 => .ok (_ ++ ps) M2) post1 fun ps M2 ι2 H2 vs m2 e2 r2 post2 => post2 ι2 H2 _ m2 .refl ((h3.ext e2).append r2)⟩
    · exact post1.elim
theorem se_tup {es : List PySem.Expr} {x1 : Nat} {cr : Ev (List PV)} (h : PA X es (LA G W cr)) : PE X (.Tuple es x1 pos) (LE G W fun sp M => (cr sp M).bind fun ps M1 => if ps.length ≤ sizeLine then .ok (.tup ps) M1 else .bad) :=
  (pe_tup h).w fun σ H Q h => by
    obtain ⟨M, ι, sp, m, s, post⟩ := h
    refine ⟨M, ι, sp, m, s, PostA.bind post fun ps M1 ι1 H1 vs m1 e1 r1 post1 => ?_⟩
    split at post1
    · rename_i hz
      exact ⟨by rw [← r1.length]; exact hz, fun p hp => post1 ι1 _ _ (m1.new hp) (Ext.new hp) (m1.newRp hp hz r1)⟩
    · exact post1.elim
theorem se_lst {es : List PySem.Expr} {cr : Ev (List PV)} (h : PA X es (LA G W cr)) : PE X (.List es pos) (LE G W fun sp M => (cr sp M).bind fun ps M1 => if ps.length ≤ sizeLine then .ok (.lst ps) M1 else .bad) :=
  (pe_lst h).w fun σ H Q h => by
    obtain ⟨M, ι, sp, m, s, post⟩ := h
    refine ⟨M, ι, sp, m, s, PostA.bind post fun ps M1 ι1 H1 vs m1 e1 r1 post1 => ?_⟩
    split at post1
    · rename_i hz
      exact ⟨by rw [← r1.length]; exact hz, fun p hp => post1 ι1 _ _ (m1.new hp) (Ext.new hp) (m1.newRl hp hz r1)⟩
    · exact post1.elim
end
/-! ### a new object of the store -/
section
variable {G : Gd} {M : Store} {ι : List Addr} {H : Hp}
theorem get_push {α : Type} {l : List α} {x y : α} {n : Nat} (h : (l ++ [x])[n]? = some y) : l[n]? = some y ∨ (n = l.length ∧ x = y) := by
  by_cases hn : n < l.length
  · rw [List.getElem?_append_left hn] at h; exact .inl h
  · rw [List.getElem?_append_right (by omega)] at h
    by_cases hz : n - l.length = 0
    · rw [hz] at h
      exact .inr ⟨by omega, by simpa using h⟩
    · rw [List.getElem?_eq_none (by simp; omega)] at h
      cases h
theorem push_get {α : Type} {l : List α} {x y : α} {n : Nat} (h : l[n]? = some y) : (l ++ [x])[n]? = some y := by
  rw [List.getElem?_append_left (List.getElem?_eq_some_iff.mp h).1]; exact h
theorem push_last {α : Type} (l : List α) (x : α) : (l ++ [x])[l.length]? = some x := by simp
theorem MRel.own_push (m : MRel G M ι H) {o : SObj} {p b : Addr} (h : Own (M ++ [some o]) (ι ++ [p]) b) : Own M ι b ∨ b = p := by
  obtain ⟨n, u, h1, h2⟩ := h
  rcases get_push h1 with h1 | ⟨rfl, _⟩
  · have hn : n < ι.length := by rw [m.len]; exact (List.getElem?_eq_some_iff.mp h1).1
    rw [List.getElem?_append_left hn] at h2
    exact .inl ⟨n, u, h1, h2⟩
  · rw [← m.len, push_last] at h2
    exact .inr (Option.some.inj h2).symm
theorem Ext.push (m : MRel G M ι H) {o : SObj} {p : Addr} {u : HO} (hp : H p = none) : Ext M ι H (M ++ [some o]) (ι ++ [p]) (upd H p u) :=
  ⟨fun n a h => push_get h, fun a w h _ n => ⟨by rw [upd_ne (ne_of_none h hp)]; exact h, fun z => (m.own_push z).elim n fun e => by rw [e, hp] at h; cases h⟩⟩
theorem MRel.push (m : MRel G M ι H) {o : SObj} {p : Addr} {u : HO} (hp : H p = none) (r : ObRep G (ι ++ [p]) (upd H p u) (Own (M ++ [some o]) (ι ++ [p])) o p) : MRel G (M ++ [some o]) (ι ++ [p]) (upd H p u) := by
  refine ⟨fun z => sa_new hp (m.sa z), by simp [m.len], fun n k o1 o2 a h1 h2 h3 h4 => ?_, fun n w h => ?_, tabs_upd m.tb (none_kind hp)⟩
  · have key : ∀ {n : Nat} {o1 : SObj} {a : Addr}, (M ++ [some o])[n]? = some (some o1) → (ι ++ [p])[n]? = some a → (M[n]? = some (some o1) ∧ ι[n]? = some a ∧ a ≠ p) ∨ (n = M.length ∧ a = p) := fun {n o1 a} h1 h3 => by
      rcases get_push h1 with h1 | ⟨rfl, _⟩
      · have hn : n < ι.length := by rw [m.len]; exact (List.getElem?_eq_some_iff.mp h1).1
        rw [List.getElem?_append_left hn] at h3
        obtain ⟨w, e⟩ := m.own_some ⟨n, o1, h1, h3⟩
        exact .inl ⟨h1, h3, ne_of_none e hp⟩
      · rw [← m.len, push_last] at h3
        exact .inr ⟨rfl, (Option.some.inj h3).symm⟩
    rcases key h1 h3 with ⟨a1, a2, a3⟩ | ⟨a1, a2⟩
    · rcases key h2 h4 with ⟨b1, b2, b3⟩ | ⟨b1, b2⟩
      · exact m.inj n k o1 o2 a a1 b1 a2 b2
      · exact absurd b2 a3
    · rcases key h2 h4 with ⟨b1, b2, b3⟩ | ⟨b1, b2⟩
      · exact absurd a2 b3
      · rw [a1, b1]
  · rcases get_push h with h | ⟨rfl, e⟩
    · obtain ⟨a, h1, h2⟩ := m.obj n w h
      obtain ⟨z, e⟩ := m.own_some ⟨n, w, h, h1⟩
      exact ⟨a, push_get h1, h2.ext (Ext.push m hp) (upd_ne (ne_of_none e hp))⟩
    · cases e
      exact ⟨p, by rw [← m.len]; exact push_last _ _, r⟩
theorem MRel.pushL (m : MRel G M ι H) {ps : List PV} {vs : List V} {p : Addr} (hp : H p = none) (hz : ps.length ≤ sizeLine) (r : Rps G ι H (Own M ι) ps vs) : MRel G (M ++ [some (.lst ps)]) (ι ++ [p]) (upd H p (.lst vs)) :=
  m.push hp ⟨vs, upd_same, hz, r.ext (Ext.push m hp)⟩
/-- an object of the store is written -/
theorem own_set {M : Store} {n : Nat} {o o' : SObj} (hn : M[n]? = some (some o)) {b : Addr} : Own (M.set n (some o')) ι b ↔ Own M ι b := by
  have hl : n < M.length := (List.getElem?_eq_some_iff.mp hn).1
  constructor
  · rintro ⟨k, u, h1, h2⟩
    by_cases hk : n = k
    · subst hk
      exact ⟨n, o, hn, h2⟩
    · rw [List.getElem?_set_ne hk] at h1
      exact ⟨k, u, h1, h2⟩
  · rintro ⟨k, u, h1, h2⟩
    by_cases hk : n = k
    · subst hk
      exact ⟨n, o', List.getElem?_set_self hl, h2⟩
    · exact ⟨k, u, by rw [List.getElem?_set_ne hk]; exact h1, h2⟩
theorem own_setF {M : Store} {ι : List Addr} {n : Nat} {o o' : SObj} (hn : M[n]? = some (some o)) : Own (M.set n (some o')) ι = Own M ι := funext fun _ => propext (own_set hn)
theorem Ext.write {n : Nat} {o o' : SObj} {a : Addr} {u : HO} (hn : M[n]? = some (some o)) (ha : ι[n]? = some a) : Ext M ι H (M.set n (some o')) ι (upd H a u) :=
  ⟨fun _ _ h => h, fun b w h _ hb => ⟨by rw [upd_ne (fun z => hb ⟨n, o, hn, by rw [z]; exact ha⟩)]; exact h, fun z => hb ((own_set hn).mp z)⟩⟩
theorem MRel.write (m : MRel G M ι H) {n : Nat} {o o' : SObj} {a : Addr} {u : HO} (hn : M[n]? = some (some o)) (ha : ι[n]? = some a) (r : ObRep G ι (upd H a u) (Own M ι) o' a) : MRel G (M.set n (some o')) ι (upd H a u) := by
  have hl : n < M.length := (List.getElem?_eq_some_iff.mp hn).1
  have hsa : G.sw = false → ∃ o, upd H a u G.sa = some o ∧ ∀ ps, o ≠ .tbl ps := fun z => by
    by_cases hb : G.sa = a
    · rw [hb]
      cases o' with
      | lst ps => obtain ⟨vs, e, _⟩ := r; exact ⟨_, e, nofun⟩
      | ins c fs => obtain ⟨_, _, _, _, _, _, _, e, _⟩ := r; exact ⟨_, e, nofun⟩
      | dct kvs => obtain ⟨vs, e, _⟩ := r; exact ⟨_, e, nofun⟩
    · rw [upd_ne hb]
      exact m.sa z
  refine ⟨hsa, by simp [m.len], fun i k o1 o2 b h1 h2 h3 h4 => ?_, fun i w h => ?_, tabs_upd m.tb (m.own_kind ⟨n, o, hn, ha⟩)⟩
  · have key : ∀ {i : Nat} {o1 : SObj}, (M.set n (some o'))[i]? = some (some o1) → ∃ o2, M[i]? = some (some o2) := fun {i o1} h1 => by
      by_cases hk : n = i
      · subst hk; exact ⟨o, hn⟩
      · rw [List.getElem?_set_ne hk] at h1; exact ⟨o1, h1⟩
    obtain ⟨_, k1⟩ := key h1
    obtain ⟨_, k2⟩ := key h2
    exact m.inj i k _ _ b k1 k2 h3 h4
  · rw [own_setF hn]
    by_cases hk : n = i
    · subst hk
      rw [List.getElem?_set_self hl] at h
      cases h
      exact ⟨a, ha, r⟩
    · rw [List.getElem?_set_ne hk] at h
      obtain ⟨b, h1, h2⟩ := m.obj i w h
      have hne : b ≠ a := fun z => hk (m.inj n i o w b hn h (z ▸ ha) h1)
      have e := Ext.write (H := H) (u := u) (o' := o') hn ha
      have h3 := h2.ext e (upd_ne hne)
      rw [own_setF hn] at h3
      exact ⟨b, h1, h3⟩
theorem MRel.writeL (m : MRel G M ι H) {n : Nat} {xs ys : List PV} {ws : List V} {a : Addr} (hn : M[n]? = some (some (.lst xs))) (ha : ι[n]? = some a) (hz : ys.length ≤ sizeLine) (r : Rps G ι H (Own M ι) ys ws) : MRel G (M.set n (some (.lst ys))) ι (upd H a (.lst ws)) := by
  have h := Rps.ext (Ext.write (H := H) (u := .lst ws) (o' := .lst ys) hn ha) _ _ r
  rw [own_setF hn] at h
  exact m.write hn ha ⟨ws, upd_same, hz, h⟩
/-- an object of the store is let go -/
theorem own_drop {M : Store} {n : Nat} {b : Addr} (h : Own (M.set n none) ι b) : ∃ k u, k ≠ n ∧ M[k]? = some (some u) ∧ ι[k]? = some b := by
  obtain ⟨k, u, h1, h2⟩ := h
  by_cases hk : n = k
  · subst hk
    by_cases hl : n < M.length
    · rw [List.getElem?_set_self hl] at h1; cases h1
    · rw [List.getElem?_eq_none (by simpa using hl)] at h1; cases h1
  · rw [List.getElem?_set_ne hk] at h1
    exact ⟨k, u, Ne.symm hk, h1, h2⟩
theorem Ext.drop {n : Nat} : Ext M ι H (M.set n none) ι H :=
  ⟨fun _ _ h => h, fun b w h _ hb => ⟨h, fun z => let ⟨k, u, _, h1, h2⟩ := own_drop z; hb ⟨k, u, h1, h2⟩⟩⟩
theorem MRel.drop (m : MRel G M ι H) (n : Nat) : MRel G (M.set n none) ι H := by
  have key : ∀ {i : Nat} {o1 : SObj}, (M.set n none)[i]? = some (some o1) → M[i]? = some (some o1) := fun {i o1} h1 => by
    by_cases hk : n = i
    · subst hk
      by_cases hl : n < M.length
      · rw [List.getElem?_set_self hl] at h1; cases h1
      · rw [List.getElem?_eq_none (by simpa using hl)] at h1; cases h1
    · rw [List.getElem?_set_ne hk] at h1; exact h1
  refine ⟨m.sa, by simp [m.len], fun i k o1 o2 b h1 h2 h3 h4 => m.inj i k _ _ b (key h1) (key h2) h3 h4, fun i w h => ?_, m.tb⟩
  obtain ⟨b, h1, h2⟩ := m.obj i w (key h)
  exact ⟨b, h1, h2.ext Ext.drop rfl⟩
end
section
variable {T : Tab} {G : Gd} {Γ : Fns} {W : WX} {X : Cx} {pos : Pos} {a b c : PySem.Expr} {ca cb cc : Ev PV}
theorem se_lstR {es : List PySem.Expr} {cr : Ev (List PV)} (h : PA X es (LA G W cr)) : PE X (.List es pos) (LE G W fun sp M => (cr sp M).bind fun ps M1 => if ps.length ≤ sizeLine then .ok (.ref M1.length) (M1 ++ [some (.lst ps)]) else .bad) :=
  (pe_lst h).w fun σ H Q h => by
    obtain ⟨M, ι, sp, m, s, post⟩ := h
    refine ⟨M, ι, sp, m, s, PostA.bind post fun ps M1 ι1 H1 vs m1 e1 r1 post1 => ?_⟩
    split at post1
    · rename_i hz
      exact ⟨by rw [← r1.length]; exact hz, fun p hp => post1 _ _ _ (m1.pushL hp hz r1) (Ext.push m1 hp) (.ref (by rw [← m1.len]; exact push_last _ _))⟩
    · exact post1.elim
theorem se_frz {i : Nat} {x : Str} (hN : X.N[i]? = some x) (hv : Vis X.env.scope x) (hd : dbgB x = true) : PE X (.Name x pos) (LE G W (ev T Γ (.frz i))) := by
  refine (pe_var hN hv (dbg1 hd) (dbg2 hd)).w fun σ H Q h => ?_
  obtain ⟨M, ι, sp, m, s, post⟩ := h
  simp only [ev] at post
  split at post
  · rename_i n hp
    obtain ⟨v, h1, h2⟩ := s.at_ i _ hp
    split at post
    · rename_i xs hx
      obtain ⟨a, vs, rfl, k1, k2, k3, k4, k5⟩ := m.lstAt hx h2
      refine ⟨_, h1, post ι H _ (m.drop n) Ext.drop (.lst ⟨k3, fun z => ?_⟩ k4 (k5.ext Ext.drop))⟩
      obtain ⟨k, u, hk, q1, q2⟩ := own_drop z
      exact hk (m.inj k n u _ a q1 k2 q2 k1)
    · exact post.elim
  · exact post.elim
/-! ### slices, calls -/
def LO (G : Gd) (W : WX) (c : Ev (Option Int)) : TO := fun σ H Q => ∃ M ι sp, MRel G M ι H ∧ SRep G M ι H sp σ ∧ match c sp M with
  | .ok o M' => ∀ ι' H', MRel G M' ι' H' → Ext M ι H M' ι' H' → Q o H'
  | .exc x M' => ∀ ι' H' cv d, MRel G M' ι' H' → Ext M ι H M' ι' H' → XRep G ι' H' (Own M' ι') x cv d → W.at x.hot cv d σ H'
  | .bad => False
theorem so_none : PO X none (LO G W fun _ M => .ok none M) := ⟨fun pins s σ H Q I h => by
  obtain ⟨M, ι, sp, m, s', post⟩ := h
  exact po_none.run pins s σ H Q I (post ι H m .refl)⟩
theorem so_some (ha : PE X a (LE G W ca)) : PO X (some a) (LO G W fun sp M => (ca sp M).bind fun p M1 => match p with | .int n => .ok (some n) M1 | _ => .bad) := ⟨fun pins s σ H Q I h => by
  obtain ⟨M, ι, sp, m, s', post⟩ := h
  dsimp only at post
  refine (po_some ha).run pins s σ H Q I ⟨M, ι, sp, m, s', ?_⟩
  cases e : ca sp M with
  | ok p M1 =>
    rw [e] at post
    intro ι1 H1 v m1 e1 r1
    cases p with
    | int n => cases r1; exact ⟨n, rfl, post ι1 H1 m1 e1⟩
    | _ => exact post.elim
  | exc x M1 =>
    rw [e] at post
    exact post
  | bad =>
    rw [e] at post
    exact post⟩
theorem se_slc (hK : X.K = G.K) {lo hi : Option PySem.Expr} {cl ch : Ev (Option Int)} {p2 : Pos} (ha : PE X a (LE G W ca)) (hl : PO X lo (LO G W cl)) (hh : PO X hi (LO G W ch)) :
    PE X (.Subscript a (.Slice lo hi none p2) pos) (LE G W fun sp M => (ca sp M).bind fun p M1 => (cl sp M1).bind fun l M2 => (ch sp M2).bind fun h M3 => .ofO (slcP M3 p l h) M3) := by
  refine (pe_slice (pr_slc hK) ha hl hh).w fun σ H Q h => ?_
  obtain ⟨M, ι, sp, m, s, post⟩ := h
  refine ⟨M, ι, sp, m, s, post.bind fun p M1 ι1 H1 v m1 e1 r1 post1 => ⟨M1, ι1, sp, m1, s.ext e1, ?_⟩⟩
  cases e : cl sp M1 with
  | bad => rw [e] at post1; exact post1
  | exc x M2 => rw [e] at post1; exact post1
  | ok l M2 =>
    rw [e] at post1
    intro ι2 H2 m2 e2
    have post2 := PostE.from (r := (ch sp M2).bind fun h M3 => .ofO (slcP M3 p l h) M3) post1 e2
    refine ⟨M2, ι2, sp, m2, (s.ext e1).ext e2, ?_⟩
    cases e' : ch sp M2 with
    | bad => rw [e'] at post2; exact post2
    | exc x M3 => rw [e'] at post2; exact post2
    | ok h M3 =>
      rw [e'] at post2
      intro ι3 H3 m3 e3
      have post3 := PostE.from (r := .ofO (slcP M3 p l h) M3) post2 e3
      exact ⟨M3, ι3, p, m3, (r1.ext e2).ext e3, post3.ofO⟩
theorem SFn {G : Gd} {Γ : Fns} {X : Cx} {k : Nat} (hf : ∀ (f : Nat) (a : Addr), FAt G f a → FnD X.prog X.w X.K X.mg X.base k a (spD G (Γ f))) :
    ∀ (a : Addr) (sp : Sp), (∃ f x, G.fnm f = some x ∧ G.mg x = some (.ref a) ∧ sp = spD G (Γ f)) → FnD X.prog X.w X.K X.mg X.base k a sp := fun a sp ⟨f, x, h1, h2, e⟩ => by
  subst e
  exact hf f a (.inl ⟨x, h1, h2⟩)
theorem se_callAny {x : Str} {p : Pos} {es : List PySem.Expr} {k : Nat} {cf : Ev PV} {cr : Ev (List PV)} (hr : RoomG k X.A) (tk : Takes X W)
    (hf : ∀ (f : Nat) (a : Addr), FAt G f a → FnD X.prog X.w X.K X.mg X.base k a (spD G (Γ f)))
    (hx : PE X (.Name x p) (LE G W cf)) (ha : PA X es (LA G W cr)) (hns : es.all notStar = true) (h0 : es = [] → ∀ sp M, cr sp M = .ok [] M) :
    PE X (.Call (.Name x p) es [] pos) (LE G W fun sp M => (cf sp M).bind fun v M0 => match v with
      | .fn f => (cr sp M0).bind fun ps M1 => Γ f ps M1
      | _ => .bad) := by
  cases es with
  | nil =>
    refine (pe_callD0 (SFn hf) hr tk hx).w fun σ H Q h => ?_
    obtain ⟨M, ι, sp, m, s, post⟩ := h
    refine ⟨M, ι, sp, m, s, post.bind fun v M1 ι1 H1 u m1 e1 r1 post1 => ?_⟩
    cases v with
    | fn f =>
      cases r1 with
      | fn g1 g2 =>
        rw [h0 rfl] at post1
        exact ⟨_, _, rfl, ⟨f, _, g1, g2, rfl⟩, M1, ι1, [], m1, .nil, PostF.ofE (W := W) (σ := σ) post1⟩
    | _ => exact post1.elim
  | cons e es =>
    refine (pe_callD (SFn hf) hr tk hx ha hns).w fun σ H Q h => ?_
    obtain ⟨M, ι, sp, m, s, post⟩ := h
    refine ⟨M, ι, sp, m, s, post.bind fun v M1 ι1 H1 u m1 e1 r1 post1 => ?_⟩
    cases v with
    | fn f =>
      cases r1 with
      | fn g1 g2 =>
        exact ⟨_, _, rfl, ⟨f, _, g1, g2, rfl⟩, M1, ι1, sp, m1, s.ext e1, PostA.bind post1 fun ps M2 ι2 H2 vs m2 e2 r2 post2 => ⟨M2, ι2, ps, m2, r2, PostF.ofE (W := W) (σ := σ) post2⟩⟩
    | _ => exact post1.elim
end
end DI
set_option maxHeartbeats 2000000
/-! # DI: what is walked: lists, tuples, texts; enumerate and zip of them -/
namespace DI
open PySem PySem.Spec L2
open PyProof.Rows hiding St

/-! ### enumerate(v) -/
set_option maxHeartbeats 4000000 in
theorem meets_enumerate_newB1 {v : Value} {o : Obj} {H : Heap → Prop} (B : Begins v o H) :
    Meets (Builtin.«enumerate.__new__» ⟨[.type "enumerate", v], []⟩) (fun _ R s => H s.heap ∧
      R (.ok (.ret (.ref (s.heap.push o).objs.size))) { s with heap := (s.heap.push o).push { cls := .type "enumerate", data := .fields #[.none, .bool false, .ref s.heap.objs.size, rawInt 0, .none, .none] } }) :=
  .of_wp fun prog w A R s h => by
    obtain ⟨hp, g, d, tk, os⟩ := s; obtain ⟨h1, h⟩ := h
    have hsub := sub_enumerate
    have q1 : ∀ {A' : Around} {E : Value → Shared → Prop} {Q : Value → Shared → Prop}, Q (.ref hp.objs.size) ⟨hp.push o, g, d, tk, os⟩ → wpAny (model prog w) A' (pyIter v) Q E ⟨hp, g, d, tk, os⟩ :=
      fun q => B.iter prog w _ _ ⟨hp, g, d, tk, os⟩ _ h1 q
    wp_walk using q1
    refine wpAny_stack_any fun st => wpAny_pure ?_
    split
    · rename_i c _ _ _ _ _
      cases (c == Value.type "enumerate")
      · wp_walk using q1
        exact ⟨_, rfl, h⟩
      · wp_walk using q1
        exact ⟨_, rfl, h⟩
    · wp_walk using q1
      exact ⟨_, rfl, h⟩
section
variable {prog : Program} {w : World} {A : Around} {E : Value → Shared → Prop} {s : Shared}
theorem enum_begins1 {v : Value} {o : Obj} {H : Heap → Prop} {Q : Value → Shared → Prop} (B : Begins v o H) (h1 : H s.heap)
    (h : ∀ h', IsEnum h' (s.heap.objs.size + 1) s.heap.objs.size 0 .none → h'.get? s.heap.objs.size = some o → h'.objs.size = s.heap.objs.size + 2 →
      (∀ b o, s.heap.get? b = some o → h'.get? b = some o) → Q (.ref (s.heap.objs.size + 1)) { s with heap := h' }) :
    wpAny (model prog w) A (call (.type "enumerate") [v]) Q E s := by
  refine callType_new F.called_enumerate (by decide) (F.typeCall_enumerate_1 _) (F.newCall_enumerate_1 _) (fun obj => F.args_object_init_2 obj _) F.entry_enumerate_new
    (meets_enumerate_newB1 B) ⟨h1, ?_⟩
  have hz : (s.heap.push o).objs.size = s.heap.objs.size + 1 := Heap.size_push ..
  show _ ∧ _
  rw [hz]
  have he : IsEnum ((s.heap.push o).push { cls := .type "enumerate", data := .fields #[.none, .bool false, .ref s.heap.objs.size, rawInt 0, .none, .none] }) (s.heap.objs.size + 1) s.heap.objs.size 0 .none := by
    have := Heap.get?_push_size (s.heap.push o) (o := { cls := .type "enumerate", data := .fields #[.none, .bool false, .ref s.heap.objs.size, rawInt 0, .none, .none] }) rfl
    rw [hz] at this; exact this
  refine ⟨⟨_, he, rfl⟩, h _ he (Heap.get?_push_of_some _ (Heap.get?_push_size _ B.free)) (by rw [Heap.size_push, hz]) fun b o x => Heap.get?_push_of_some _ (Heap.get?_push_of_some _ x)⟩
end

/-! ### sources -/
inductive Src where
  | l (a : Addr) | t (a : Addr) | s (x : Str)
def Src.base : Src → List Addr
  | .l a => [a] | .t a => [a] | .s _ => []
def Src.v : Src → V
  | .l a => .ref a | .t a => .ref a | .s x => .str x
/-- what it holds -/
def Src.has (K : PySem.W.Frag) (H : Hp) : Src → List V → Prop
  | .l a, xs => SqL K H a xs
  | .t a, xs => SqT K H a xs
  | .s x, xs => xs = x.cps.toList.map fun c => .str ⟨#[c]⟩
/-- its iterator at b -/
def Src.it (b : Addr) (i : Nat) (h : Heap) : Src → Prop
  | .l a => h.IsListIter b a i
  | .t a => h.IsTupleIter b a i
  | .s x => ∃ t, h.IsStrIter b (strIterType x) x t i
section
variable {X : Cx} {pins : List (Addr × Obj)} {σ : St} {H : Hp} {s : Shared}
theorem Src.inj (I : Inv X pins σ H s) : ∀ {S : Src} {xs ys : List V}, S.has X.K H xs → S.has X.K H ys → xs = ys
  | .l _, _, _, h, k => I.list_inj h k
  | .t _, _, _, h, k => I.tuple_inj h k
  | .s _, _, _, h, k => h.trans k.symm
theorem Src.now (I : Inv X pins σ H s) (hc : X.calm = true) {b : Addr} {i : Nat} : ∀ {S : Src} {xs : List V}, S.has X.K H xs → b ∉ S.base → S.it b i s.heap →
    ∃ P St, Draws X.prog X.w X.A.in1 b (b :: S.base) xs.length P St ∧ St i s.heap ∧ (∀ j h, St j h → S.it b j h) ∧ ∀ j u, P j u → ∃ v, xs[j]? = some v ∧ RelV v u
  | .l a, xs, h, hb, hi => by
    obtain ⟨its, rv, p, hz⟩ := I.list h
    have D := Draws.list (prog := X.prog) (w := X.w) (A := X.A.in1) (show X.A.in1.handled = none from I.ok.hd hc) b a (fun e => hb (by simp [Src.base, e])) its.toArray
    have hl : its.toArray.size = xs.length := by simpa using rv.length.symm
    rw [hl] at D
    refine ⟨_, _, D, ⟨hi, p.isList⟩, fun j h st => st.1, fun j u hu => ?_⟩
    have hlt : j < xs.length := by
      have := (Array.getElem?_eq_some_iff.mp hu).1
      omega
    obtain ⟨u', e1, e2⟩ := rv.get (List.getElem?_eq_getElem hlt)
    have e3 : some u = some u' := by rw [← hu]; simpa using e1
    cases e3
    exact ⟨_, List.getElem?_eq_getElem hlt, e2⟩
  | .t a, xs, h, hb, hi => by
    obtain ⟨its, rv, p, hz⟩ := I.tuple h
    have D := Draws.tuple (prog := X.prog) (w := X.w) (A := X.A.in1) (show X.A.in1.handled = none from I.ok.hd hc) b a (fun e => hb (by simp [Src.base, e])) its.toArray
    have hl : its.toArray.size = xs.length := by simpa using rv.length.symm
    rw [hl] at D
    refine ⟨_, _, D, ⟨hi, p⟩, fun j h st => st.1, fun j u hu => ?_⟩
    have hlt : j < xs.length := by
      have := (Array.getElem?_eq_some_iff.mp hu).1
      omega
    obtain ⟨u', e1, e2⟩ := rv.get (List.getElem?_eq_getElem hlt)
    have e3 : some u = some u' := by rw [← hu]; simpa using e1
    cases e3
    exact ⟨_, List.getElem?_eq_getElem hlt, e2⟩
  | .s x, xs, h, hb, hi => by
    obtain ⟨t, hi⟩ := hi
    have D := Draws.text (prog := X.prog) (w := X.w) (A := X.A.in1) (show X.A.in1.handled = none from I.ok.hd hc) b x t
    have h : xs = _ := h
    have hl : x.cps.size = xs.length := by rw [h]; simp
    rw [hl] at D
    refine ⟨_, _, D, hi, fun j h st => ⟨t, st⟩, fun j u ⟨c, t', hu, e⟩ => ?_⟩
    subst e h
    exact ⟨.str ⟨#[c]⟩, by simp [hu], t', rfl⟩
theorem Src.begins (I : Inv X pins σ H s) : ∀ {S : Src} {xs : List V} {u : Value}, S.has X.K H xs → RelV S.v u →
    ∃ o Hq, Begins u o Hq ∧ Hq s.heap ∧ (∀ h b, h.get? b = some o → S.it b 0 h) ∧ ∀ a ∈ S.base, a < s.heap.objs.size
  | .l a, xs, u, h, r => by
    cases r
    obtain ⟨its, rv, p, hz⟩ := I.list h
    exact ⟨_, _, begins_list a its.toArray, p.isList, fun h b e => ⟨_, e, rfl, rfl⟩, fun c hc => by
      have e : c = a := by simpa [Src.base] using hc
      rw [e]; exact p.lt⟩
  | .t a, xs, u, h, r => by
    cases r
    obtain ⟨its, rv, p, hz⟩ := I.tuple h
    exact ⟨_, _, begins_tuple a its.toArray, p, fun h b e => ⟨_, e, rfl, rfl⟩, fun c hc => by
      have e : c = a := by simpa [Src.base] using hc
      obtain ⟨o, ho, _⟩ := id p
      rw [e]; exact Heap.lt_size ho⟩
  | .s x, xs, u, h, r => by
    obtain ⟨t, rfl⟩ := r
    exact ⟨_, _, begins_text x t, trivial, fun h b e => ⟨t, _, e, rfl, rfl⟩, fun c hc => by simp [Src.base] at hc⟩
theorem Src.at_ {b : Addr} {i : Nat} {h h' : Heap} : ∀ {S : Src}, S.it b i h → (∀ o, h.get? b = some o → h'.get? b = some o) → S.it b i h'
  | .l _, st, k => Heap.IsListIter.at st fun o e => k o e
  | .t _, st, k => Heap.IsTupleIter.at st fun o e => k o e
  | .s _, st, k => let ⟨tk, o, ho, r⟩ := st; ⟨tk, o, k o ho, r⟩
theorem Src.obj {b : Addr} {i : Nat} {h : Heap} : ∀ {S : Src}, S.it b i h → ∃ o, h.get? b = some o ∧ ∀ v, o.data ≠ .cell v
  | .l _, st => let ⟨o, e, _, d⟩ := st; ⟨o, e, fun v q => by rw [d] at q; cases q⟩
  | .t _, st => let ⟨o, e, _, d⟩ := st; ⟨o, e, fun v q => by rw [d] at q; cases q⟩
  | .s _, st => let ⟨tk, o, e, _, d⟩ := st; ⟨o, e, fun v q => by rw [d] at q; cases q⟩
end
/-- enumerate(S) -/
def ItE (K : PySem.W.Frag) (S : Src) : It :=
  ⟨fun i H => ∃ (xs : List V) (x : V), S.has K H xs ∧ xs[i]? = some x, fun i H v H' => ∃ T x, v = .ref T ∧ H T = none ∧ H' = upd H T (.tup [.int (i : Nat), x]) ∧ ∀ xs, S.has K H xs → xs[i]? = some x, fun i H => ∃ xs : List V, S.has K H xs ∧ xs.length = i⟩
theorem turn_enumS {P : Program} {w : World} {K : PySem.W.Frag} {elts : List PySem.Expr} {kk : Nat} {tpos : Pos} (S : Src) (N : Nat) (hb : ∀ a ∈ S.base, a < N) :
    Turn P w K (.Tuple elts kk tpos) (ItE K S) [N + 1, N] (N + 1) (fun i h => (∃ old, IsEnum h (N + 1) N ((i : Nat) : Int) old) ∧ S.it N i h) where
  mem := by simp
  obj := fun i h st b hb => by
    obtain ⟨⟨old, he⟩, hi⟩ := st
    have e' : b = N + 1 ∨ b = N := by simpa using hb
    rcases e' with z | z
    · rw [z]; exact ⟨_, he, fun v q => nomatch q⟩
    · rw [z]; exact Src.obj hi
  keep := fun i h h' st k => let ⟨⟨old, he⟩, hi⟩ := st; ⟨⟨old, k (N + 1) (by simp) _ he⟩, Src.at_ hi fun o q => k N (by simp) o q⟩
  item := by
    intro X hP hw hK hc i pins s σ H E I hf st hg
    subst hP hw hK
    obtain ⟨⟨old, he⟩, hit⟩ := st
    obtain ⟨xs, x, hq, hx⟩ := hg
    have nb : N ∉ S.base := fun z => Nat.lt_irrefl _ (hb _ z)
    have nb1 : N + 1 ∉ N :: S.base := fun z => by
      rcases List.mem_cons.mp z with z | z
      · exact absurd z (Nat.succ_ne_self N)
      · exact absurd (Nat.lt_of_succ_lt (hb _ z)) (Nat.lt_irrefl _)
    obtain ⟨Pt, St, D, st1, ha, hPt⟩ := Src.now I hc hq nb hit
    have hel : N + 1 < s.heap.objs.size := Heap.lt_size he
    have hlt : i < xs.length := (List.getElem?_eq_some_iff.mp hx).1
    refine wpAny_pyNext_enum_itemC D he st1 hlt (Nat.succ_ne_self N) nb1 fun u h' tk hu ho st' hT hsz hk => ?_
    obtain ⟨x', hx', ru⟩ := hPt _ _ hu
    rw [hx] at hx'
    cases hx'
    refine ⟨_, rfl, wpAny_letOwnedTupleGo_enum (s := { s with heap := h', toks := tk + 1 }) ho fun h'' he' sb => ?_⟩
    have hT2 : h''.get? s.heap.objs.size = some { cls := .type "tuple", data := .seq #[.int i tk, u] } := (sb.2 _ (Nat.ne_of_gt hel)).trans hT
    have new : ObjOk X.prog X.w (upd H s.heap.objs.size (.tup [.int (i : Nat), x])) h'' s.heap.objs.size (.tup [.int (i : Nat), x]) :=
      ⟨by show 2 ≤ sizeLine; decide, [.int i tk, u], .cons ⟨_, rfl⟩ (.cons ru .nil), ⟨_, hT2, rfl, _, rfl⟩⟩
    have I1 : Inv X pins σ (upd H s.heap.objs.size (.tup [.int (i : Nat), x])) { s with heap := h'', toks := tk + 1 } :=
      I.turnedNew (ch := [N + 1, N]) (fun b ob hb q => (sb.2 b (fun z => hb (by simp [z]))).trans (hk b ob (fun z => hb (by simp [z])) (fun z => hb (by simp [z])) q)) hf (Nat.le_refl _) new
    refine ⟨.ref s.heap.objs.size, _, I1, rfl, ⟨_, x, rfl, I.hok.fresh (Nat.le_refl _), rfl, fun ys hy => by rw [Src.inj I hy hq]; exact hx⟩, ⟨⟨u, ?_⟩, ha _ _ (D.over st' sb nb1)⟩, fun b hb => ?_⟩
    · have e1 : ((i + 1 : Nat) : Int) = (i : Int) + 1 := by omega
      rw [e1]; exact he'
    · have hb' : b < s.heap.objs.size := by
        have e' : b = N + 1 ∨ b = N := by simpa using hb
        rcases e' with z | z
        · rw [z]; exact hel
        · rw [z]; exact Nat.lt_of_succ_lt hel
      rw [upd_ne (Nat.ne_of_lt hb')]
      exact (hf b hb).1
  done := by
    intro X hP hw hK hc i pins s σ H E I hf st hg
    subst hP hw hK
    obtain ⟨⟨old, he⟩, hit⟩ := st
    obtain ⟨xs, hq, hx⟩ := hg
    have nb : N ∉ S.base := fun z => Nat.lt_irrefl _ (hb _ z)
    obtain ⟨Pt, St, D, st1, ha, hPt⟩ := Src.now I hc hq nb hit
    obtain ⟨f0, f1, f2, f3, f4, f5⟩ := hf N (by simp)
    subst hx
    exact wpAny_pyNext_enum_endD D he st1 fun h' eb => ⟨rfl, I.turned (t' := s.toks) (fun b o hb q => eb b o hb q) f0 f1 f3 f4 f5⟩
  self := fun A i s Q E st h => let ⟨⟨_, he⟩, _⟩ := st; wpAny_pyIter_enum he h
def iEnumS (K : PySem.W.Frag) (ta : TA) : TI := fun σ H R => ta σ H fun vs H1 => ∃ (S : Src) (xs : List V), vs = [S.v] ∧ S.has K H1 xs ∧ R (ItE K S) H1
theorem pi_enumS {X : Cx} {e : PySem.Expr} {ta : TA} {p pos tpos : Pos} {elts : List PySem.Expr} {kk : Nat} (hg : Gl X "enumerate") (hm : X.mg "enumerate" = none) (ha : PA X [e] ta) (hs : starEach [e] X.env = [(false, eval e X.env)]) :
    PI X (.Tuple elts kk tpos) (.Call (.Name "enumerate" p) [e] [] pos) (iEnumS X.K ta) := by
  refine ⟨fun pins s σ H R I h => ?_⟩
  refine Call_ (ld_blt I hg hm boot_enumerate (PyProof.Rows.callWith_type1 (thn (ha.run pos pins s σ H _ I h) fun us s1 ⟨vs, H1, I1, r1, q1⟩ => ?_) hs rfl))
  obtain ⟨S, xs, ex, hq, q⟩ := q1
  subst ex
  cases r1 with
  | cons r rr =>
    cases rr
    obtain ⟨o, Hq, B, hB, hat, hlt⟩ := Src.begins I1 hq r
    refine enum_begins1 B hB fun h' he hit hsz hk => wpAny_pyIter_enum he ?_
    have I2 : Inv X pins σ H1 { s1 with heap := h' } := I1.kept (t' := s1.toks) hk
    refine ⟨s1.heap.objs.size + 1, [s1.heap.objs.size + 1, s1.heap.objs.size], _, _, H1, rfl, I2, turn_enumS S s1.heap.objs.size hlt, ⟨⟨.none, he⟩, hat _ _ hit⟩, fun b hb => ?_, q⟩
    have e' : b = s1.heap.objs.size + 1 ∨ b = s1.heap.objs.size := by simpa using hb
    have hle : s1.heap.objs.size ≤ b := by
      rcases e' with z | z
      · rw [z]; exact Nat.le_add_right _ _
      · rw [z]; exact Nat.le_refl _
    exact I1.fpOk hle (I1.hok.fresh hle)
/-- zip(S, S') -/
def ItZ (K : PySem.W.Frag) (S S' : Src) : It :=
  ⟨fun i H => ∃ (xs ys : List V) (x y : V), S.has K H xs ∧ S'.has K H ys ∧ xs[i]? = some x ∧ ys[i]? = some y,
    fun i H v H' => ∃ T x y, v = .ref T ∧ H T = none ∧ H' = upd H T (.tup [x, y]) ∧ (∀ xs, S.has K H xs → xs[i]? = some x) ∧ ∀ ys, S'.has K H ys → ys[i]? = some y,
    fun i H => ∃ xs ys : List V, S.has K H xs ∧ S'.has K H ys ∧ i ≤ xs.length ∧ i ≤ ys.length ∧ (i = xs.length ∨ i = ys.length)⟩
theorem turn_zipS {P : Program} {w : World} {K : PySem.W.Frag} {elts : List PySem.Expr} {kk : Nat} {tpos : Pos} (S S' : Src) (N : Nat) (hb : ∀ a ∈ S.base, a < N) (hb' : ∀ a ∈ S'.base, a < N) :
    Turn P w K (.Tuple elts kk tpos) (ItZ K S S') [N + 4, N + 2, N + 3, N, N + 1] (N + 4) (fun i h => IsZip h (N + 4) (N + 2) (N + 3) .none ∧ IsTupOf2 h (N + 2) (.ref N) (.ref (N + 1)) ∧ (∃ x y, IsTupOf2 h (N + 3) x y) ∧ S.it N i h ∧ S'.it (N + 1) i h) where
  mem := by simp
  obj := fun i h st c hc => by
    obtain ⟨hz, hTI, ⟨x, y, hTO⟩, h1, h2⟩ := st
    have e' : c = N + 4 ∨ c = N + 2 ∨ c = N + 3 ∨ c = N ∨ c = N + 1 := by simpa using hc
    rcases e' with q | q | q | q | q
    · rw [q]; exact ⟨_, hz, fun v q => nomatch q⟩
    · rw [q]; exact ⟨_, hTI, fun v q => nomatch q⟩
    · rw [q]; exact ⟨_, hTO, fun v q => nomatch q⟩
    · rw [q]; exact Src.obj h1
    · rw [q]; exact Src.obj h2
  keep := fun i h h' st k => by
    obtain ⟨hz, hTI, ⟨x, y, hTO⟩, h1, h2⟩ := st
    exact ⟨k (N + 4) (by simp) _ hz, k (N + 2) (by simp) _ hTI, ⟨x, y, k (N + 3) (by simp) _ hTO⟩, Src.at_ h1 fun o q => k N (by simp) o q, Src.at_ h2 fun o q => k (N + 1) (by simp) o q⟩
  item := by
    intro X hP hw hK hc i pins s σ H E I hf st hg
    subst hP hw hK
    obtain ⟨hz, hTI, ⟨x0, y0, hTO⟩, h1, h2⟩ := st
    obtain ⟨xs, ys, x, y, hqx, hqy, hx, hy⟩ := hg
    have sep := zip_sep2 hb hb'
    have nb : N ∉ S.base := fun z => Nat.lt_irrefl _ (hb _ z)
    have nb' : N + 1 ∉ S'.base := fun z => absurd (Nat.lt_of_succ_lt (hb' _ z)) (Nat.lt_irrefl _)
    obtain ⟨P1, St1, D1, st1, ha1, hP1⟩ := Src.now I hc hqx nb h1
    obtain ⟨P2, St2, D2, st2, ha2, hP2⟩ := Src.now I hc hqy nb' h2
    have hzl : N + 4 < s.heap.objs.size := Heap.lt_size hz
    refine wpAny_pyNext_zipD2_item sep D1 D2 hz hTI hTO st1 st2 (List.getElem?_eq_some_iff.mp hx).1 (List.getElem?_eq_some_iff.mp hy).1 fun u u2 h' tk pu pu2 z' TO' h1' h2' hT hsz hk => ?_
    obtain ⟨x', hx', ru⟩ := hP1 _ _ pu
    rw [hx] at hx'
    cases hx'
    obtain ⟨y', hy', ru2⟩ := hP2 _ _ pu2
    rw [hy] at hy'
    cases hy'
    refine ⟨_, rfl, wpAny_letOwnedTupleGo_zip (s := { s with heap := h', toks := tk }) z' fun h'' z'' sb => ?_⟩
    have hT2 : h''.get? s.heap.objs.size = some { cls := .type "tuple", data := .seq #[u, u2] } := (sb.2 _ (Nat.ne_of_gt hzl)).trans hT
    have new : ObjOk X.prog X.w (upd H s.heap.objs.size (.tup [x, y])) h'' s.heap.objs.size (.tup [x, y]) :=
      ⟨by show 2 ≤ sizeLine; decide, [u, u2], .cons ru (.cons ru2 .nil), ⟨_, hT2, rfl, _, rfl⟩⟩
    have I1 : Inv X pins σ (upd H s.heap.objs.size (.tup [x, y])) { s with heap := h'', toks := tk } :=
      I.turnedNew (t' := tk) (ch := [N + 4, N + 2, N + 3, N, N + 1]) (fun c o hb q => (sb.2 c (fun q' => hb (by simp [q']))).trans (hk c o (fun q' => hb (by simp [q'])) (fun q' => hb (by simp [q'])) (fun q' => hb (by simp [q'])) (fun q' => hb (by simp [q'])) q)) hf (Nat.le_refl _) new
    refine ⟨.ref s.heap.objs.size, _, I1, rfl, ⟨_, x, y, rfl, I.hok.fresh (Nat.le_refl _), rfl, fun l hl => by rw [Src.inj I hl hqx]; exact hx, fun l hl => by rw [Src.inj I hl hqy]; exact hy⟩, ⟨z'', ?_, ⟨u, u2, ?_⟩, ?_, ?_⟩, fun c hcm => ?_⟩
    · exact (sb.2 _ sep.TIz).trans (hk _ _ sep.TIz sep.TITO sep.TIi1 sep.TIi2 hTI)
    · exact (sb.2 _ sep.TOz).trans TO'
    · exact ha1 _ _ (D1.over h1' sb sep.zf1)
    · exact ha2 _ _ (D2.over h2' sb sep.zf2)
    · have hlt : c < s.heap.objs.size := by
        have e' : c = N + 4 ∨ c = N + 2 ∨ c = N + 3 ∨ c = N ∨ c = N + 1 := by simpa using hcm
        rcases e' with q | q | q | q | q <;> (rw [q]; exact Nat.lt_of_le_of_lt (by simp) hzl)
      rw [upd_ne (Nat.ne_of_lt hlt)]
      exact (hf c hcm).1
  done := by
    intro X hP hw hK hc i pins s σ H E I hf st hg
    subst hP hw hK
    obtain ⟨hz, hTI, ⟨x0, y0, hTO⟩, h1, h2⟩ := st
    obtain ⟨xs, ys, hqx, hqy, l1, l2, hend⟩ := hg
    have sep := zip_sep2 hb hb'
    have nb : N ∉ S.base := fun z => Nat.lt_irrefl _ (hb _ z)
    have nb' : N + 1 ∉ S'.base := fun z => absurd (Nat.lt_of_succ_lt (hb' _ z)) (Nat.lt_irrefl _)
    obtain ⟨P1, St1, D1, st1, ha1, hP1⟩ := Src.now I hc hqx nb h1
    obtain ⟨P2, St2, D2, st2, ha2, hP2⟩ := Src.now I hc hqy nb' h2
    exact wpAny_pyNext_zipD2_end sep D1 D2 hz hTI hTO st1 st2 l1 l2 hend fun h' tk hk => ⟨rfl, I.turnedL (t' := tk) (ch := [N + 4, N + 2, N + 3, N, N + 1]) (fun c o hb q =>
      hk c o (fun q' => hb (by simp [q'])) (fun q' => hb (by simp [q'])) (fun q' => hb (by simp [q'])) (fun q' => hb (by simp [q'])) q) hf⟩
  self := fun A i s Q E st h => wpAny_pyIter_zip st.1 h
def iZipS (K : PySem.W.Frag) (ta : TA) : TI := fun σ H R => ta σ H fun vs H1 => ∃ (S S' : Src) (xs ys : List V), vs = [S.v, S'.v] ∧ S.has K H1 xs ∧ S'.has K H1 ys ∧ R (ItZ K S S') H1
theorem pi_zipS {X : Cx} {e e2 : PySem.Expr} {ta : TA} {p pos tpos : Pos} {elts : List PySem.Expr} {kk : Nat} (hg : Gl X "zip") (hm : X.mg "zip" = none) (ha : PA X [e, e2] ta)
    (hs : starEach [e, e2] X.env = (false, eval e X.env) :: starEach [e2] X.env) (hpl : (backTo pos (starEach [e2] X.env)).any (·.1) = false) :
    PI X (.Tuple elts kk tpos) (.Call (.Name "zip" p) [e, e2] [] pos) (iZipS X.K ta) := by
  refine ⟨fun pins s σ H R I h => ?_⟩
  refine Call_ (ld_blt I hg hm PyProof.Rows.boot_zip (PyProof.Rows.callWith_type1 (thn (ha.run pos pins s σ H _ I h) fun us s1 ⟨vs, H1, I1, r1, q1⟩ => ?_) hs hpl))
  obtain ⟨S, S', xs, ys, ex, hqx, hqy, q⟩ := q1
  subst ex
  cases r1 with
  | cons r rr =>
    cases rr with
    | cons r' rr =>
      cases rr
      obtain ⟨o, Hq, B, hB, hat, hlt⟩ := Src.begins I1 hqx r
      obtain ⟨o', Hq', B', hB', hat', hlt'⟩ := Src.begins I1 hqy r'
      refine zip_begins2 B B' hB hB' fun h' hz hTI hTO h1 h2 hsz hk => wpAny_pyIter_zip hz ?_
      have I2 : Inv X pins σ H1 { s1 with heap := h' } := I1.kept (t' := s1.toks) hk
      refine ⟨s1.heap.objs.size + 4, [s1.heap.objs.size + 4, s1.heap.objs.size + 2, s1.heap.objs.size + 3, s1.heap.objs.size, s1.heap.objs.size + 1], _, _, H1, rfl, I2, turn_zipS S S' s1.heap.objs.size hlt hlt', ⟨hz, hTI, ⟨_, _, hTO⟩, hat _ _ h1, hat' _ _ h2⟩, fun c hcm => ?_, q⟩
      have e' : c = s1.heap.objs.size + 4 ∨ c = s1.heap.objs.size + 2 ∨ c = s1.heap.objs.size + 3 ∨ c = s1.heap.objs.size ∨ c = s1.heap.objs.size + 1 := by simpa using hcm
      have hle : s1.heap.objs.size ≤ c := by
        rcases e' with z | z | z | z | z
        · rw [z]; exact Nat.le_add_right _ _
        · rw [z]; exact Nat.le_add_right _ _
        · rw [z]; exact Nat.le_add_right _ _
        · rw [z]; exact Nat.le_refl _
        · rw [z]; exact Nat.le_add_right _ _
      exact I1.fpOk hle (I1.hok.fresh hle)
/-- zip(S, S', S'') -/
def ItZ3 (K : PySem.W.Frag) (S S' S'' : Src) : It :=
  ⟨fun i H => ∃ (xs ys zs : List V) (x y z : V), S.has K H xs ∧ S'.has K H ys ∧ S''.has K H zs ∧ xs[i]? = some x ∧ ys[i]? = some y ∧ zs[i]? = some z,
    fun i H v H' => ∃ T x y z, v = .ref T ∧ H T = none ∧ H' = upd H T (.tup [x, y, z]) ∧ (∀ xs, S.has K H xs → xs[i]? = some x) ∧ (∀ ys, S'.has K H ys → ys[i]? = some y) ∧ ∀ zs, S''.has K H zs → zs[i]? = some z,
    fun i H => ∃ xs ys zs : List V, S.has K H xs ∧ S'.has K H ys ∧ S''.has K H zs ∧ i ≤ xs.length ∧ i ≤ ys.length ∧ i ≤ zs.length ∧ (i = xs.length ∨ i = ys.length ∨ i = zs.length)⟩
theorem turn_zipS3 {P : Program} {w : World} {K : PySem.W.Frag} {elts : List PySem.Expr} {kk : Nat} {tpos : Pos} (S S' S'' : Src) (N : Nat) (hb : ∀ a ∈ S.base, a < N) (hb' : ∀ a ∈ S'.base, a < N) (hb'' : ∀ a ∈ S''.base, a < N) :
    Turn P w K (.Tuple elts kk tpos) (ItZ3 K S S' S'') [N + 5, N + 3, N + 4, N, N + 1, N + 2] (N + 5) (fun i h => IsZip h (N + 5) (N + 3) (N + 4) .none ∧ IsTupOf3 h (N + 3) (.ref N) (.ref (N + 1)) (.ref (N + 2)) ∧ (∃ x y z, IsTupOf3 h (N + 4) x y z) ∧ S.it N i h ∧ S'.it (N + 1) i h ∧ S''.it (N + 2) i h) where
  mem := by simp
  obj := fun i h st c hc => by
    obtain ⟨hz, hTI, ⟨x, y, z, hTO⟩, h1, h2, h3⟩ := st
    have e' : c = N + 5 ∨ c = N + 3 ∨ c = N + 4 ∨ c = N ∨ c = N + 1 ∨ c = N + 2 := by simpa using hc
    rcases e' with q | q | q | q | q | q
    · rw [q]; exact ⟨_, hz, fun v q => nomatch q⟩
    · rw [q]; exact ⟨_, hTI, fun v q => nomatch q⟩
    · rw [q]; exact ⟨_, hTO, fun v q => nomatch q⟩
    · rw [q]; exact Src.obj h1
    · rw [q]; exact Src.obj h2
    · rw [q]; exact Src.obj h3
  keep := fun i h h' st k => by
    obtain ⟨hz, hTI, ⟨x, y, z, hTO⟩, h1, h2, h3⟩ := st
    exact ⟨k (N + 5) (by simp) _ hz, k (N + 3) (by simp) _ hTI, ⟨x, y, z, k (N + 4) (by simp) _ hTO⟩, Src.at_ h1 fun o q => k N (by simp) o q, Src.at_ h2 fun o q => k (N + 1) (by simp) o q, Src.at_ h3 fun o q => k (N + 2) (by simp) o q⟩
  item := by
    intro X hP hw hK hc i pins s σ H E I hf st hg
    subst hP hw hK
    obtain ⟨hz, hTI, ⟨x0, y0, z0, hTO⟩, h1, h2, h3⟩ := st
    obtain ⟨xs, ys, zs, x, y, z, hqx, hqy, hqz, hx, hy, hzz⟩ := hg
    have sep := zip_sep3 hb hb' hb''
    have nb : N ∉ S.base := fun z => Nat.lt_irrefl _ (hb _ z)
    have nb' : N + 1 ∉ S'.base := fun z => absurd (Nat.lt_of_succ_lt (hb' _ z)) (Nat.lt_irrefl _)
    have nb'' : N + 2 ∉ S''.base := fun z => absurd (Nat.lt_of_succ_lt (Nat.lt_of_succ_lt (hb'' _ z))) (Nat.lt_irrefl _)
    obtain ⟨P1, St1, D1, st1, ha1, hP1⟩ := Src.now I hc hqx nb h1
    obtain ⟨P2, St2, D2, st2, ha2, hP2⟩ := Src.now I hc hqy nb' h2
    obtain ⟨P3, St3, D3, st3, ha3, hP3⟩ := Src.now I hc hqz nb'' h3
    have hzl : N + 5 < s.heap.objs.size := Heap.lt_size hz
    refine wpAny_pyNext_zipD3_item sep D1 D2 D3 hz hTI hTO st1 st2 st3 (List.getElem?_eq_some_iff.mp hx).1 (List.getElem?_eq_some_iff.mp hy).1 (List.getElem?_eq_some_iff.mp hzz).1 fun u u2 u3 h' tk pu pu2 pu3 z' TO' h1' h2' h3' hT hsz hk => ?_
    obtain ⟨x', hx', ru⟩ := hP1 _ _ pu
    rw [hx] at hx'
    cases hx'
    obtain ⟨y', hy', ru2⟩ := hP2 _ _ pu2
    rw [hy] at hy'
    cases hy'
    obtain ⟨w', hw', ru3⟩ := hP3 _ _ pu3
    rw [hzz] at hw'
    cases hw'
    refine ⟨_, rfl, wpAny_letOwnedTupleGo_zip (s := { s with heap := h', toks := tk }) z' fun h'' z'' sb => ?_⟩
    have hT2 : h''.get? s.heap.objs.size = some { cls := .type "tuple", data := .seq #[u, u2, u3] } := (sb.2 _ (Nat.ne_of_gt hzl)).trans hT
    have new : ObjOk X.prog X.w (upd H s.heap.objs.size (.tup [x, y, z])) h'' s.heap.objs.size (.tup [x, y, z]) :=
      ⟨by show 3 ≤ sizeLine; decide, [u, u2, u3], .cons ru (.cons ru2 (.cons ru3 .nil)), ⟨_, hT2, rfl, _, rfl⟩⟩
    have I1 : Inv X pins σ (upd H s.heap.objs.size (.tup [x, y, z])) { s with heap := h'', toks := tk } :=
      I.turnedNew (t' := tk) (ch := [N + 5, N + 3, N + 4, N, N + 1, N + 2]) (fun c o hb q => (sb.2 c (fun q' => hb (by simp [q']))).trans (hk c o (fun q' => hb (by simp [q'])) (fun q' => hb (by simp [q'])) (fun q' => hb (by simp [q'])) (fun q' => hb (by simp [q'])) (fun q' => hb (by simp [q'])) q)) hf (Nat.le_refl _) new
    refine ⟨.ref s.heap.objs.size, _, I1, rfl, ⟨_, x, y, z, rfl, I.hok.fresh (Nat.le_refl _), rfl, fun l hl => by rw [Src.inj I hl hqx]; exact hx, fun l hl => by rw [Src.inj I hl hqy]; exact hy, fun l hl => by rw [Src.inj I hl hqz]; exact hzz⟩, ⟨z'', ?_, ⟨u, u2, u3, ?_⟩, ?_, ?_, ?_⟩, fun c hcm => ?_⟩
    · exact (sb.2 _ sep.TIz).trans (hk _ _ sep.TIz sep.TITO sep.TIi1 sep.TIi2 sep.TIi3 hTI)
    · exact (sb.2 _ sep.TOz).trans TO'
    · exact ha1 _ _ (D1.over h1' sb sep.zf1)
    · exact ha2 _ _ (D2.over h2' sb sep.zf2)
    · exact ha3 _ _ (D3.over h3' sb sep.zf3)
    · have hlt : c < s.heap.objs.size := by
        have e' : c = N + 5 ∨ c = N + 3 ∨ c = N + 4 ∨ c = N ∨ c = N + 1 ∨ c = N + 2 := by simpa using hcm
        rcases e' with q | q | q | q | q | q <;> (rw [q]; exact Nat.lt_of_le_of_lt (by simp) hzl)
      rw [upd_ne (Nat.ne_of_lt hlt)]
      exact (hf c hcm).1
  done := by
    intro X hP hw hK hc i pins s σ H E I hf st hg
    subst hP hw hK
    obtain ⟨hz, hTI, ⟨x0, y0, z0, hTO⟩, h1, h2, h3⟩ := st
    obtain ⟨xs, ys, zs, hqx, hqy, hqz, l1, l2, l3, hend⟩ := hg
    have sep := zip_sep3 hb hb' hb''
    have nb : N ∉ S.base := fun z => Nat.lt_irrefl _ (hb _ z)
    have nb' : N + 1 ∉ S'.base := fun z => absurd (Nat.lt_of_succ_lt (hb' _ z)) (Nat.lt_irrefl _)
    have nb'' : N + 2 ∉ S''.base := fun z => absurd (Nat.lt_of_succ_lt (Nat.lt_of_succ_lt (hb'' _ z))) (Nat.lt_irrefl _)
    obtain ⟨P1, St1, D1, st1, ha1, hP1⟩ := Src.now I hc hqx nb h1
    obtain ⟨P2, St2, D2, st2, ha2, hP2⟩ := Src.now I hc hqy nb' h2
    obtain ⟨P3, St3, D3, st3, ha3, hP3⟩ := Src.now I hc hqz nb'' h3
    exact wpAny_pyNext_zipD3_end sep D1 D2 D3 hz hTI hTO st1 st2 st3 l1 l2 l3 hend fun h' tk hk => ⟨rfl, I.turnedL (t' := tk) (ch := [N + 5, N + 3, N + 4, N, N + 1, N + 2]) (fun c o hb q =>
      hk c o (fun q' => hb (by simp [q'])) (fun q' => hb (by simp [q'])) (fun q' => hb (by simp [q'])) (fun q' => hb (by simp [q'])) (fun q' => hb (by simp [q'])) q) hf⟩
  self := fun A i s Q E st h => wpAny_pyIter_zip st.1 h
def iZipS3 (K : PySem.W.Frag) (ta : TA) : TI := fun σ H R => ta σ H fun vs H1 => ∃ (S S' S'' : Src) (xs ys zs : List V), vs = [S.v, S'.v, S''.v] ∧ S.has K H1 xs ∧ S'.has K H1 ys ∧ S''.has K H1 zs ∧ R (ItZ3 K S S' S'') H1
theorem pi_zipS3 {X : Cx} {e e2 e3 : PySem.Expr} {ta : TA} {p pos tpos : Pos} {elts : List PySem.Expr} {kk : Nat} (hg : Gl X "zip") (hm : X.mg "zip" = none) (ha : PA X [e, e2, e3] ta)
    (hs : starEach [e, e2, e3] X.env = (false, eval e X.env) :: starEach [e2, e3] X.env) (hpl : (backTo pos (starEach [e2, e3] X.env)).any (·.1) = false) :
    PI X (.Tuple elts kk tpos) (.Call (.Name "zip" p) [e, e2, e3] [] pos) (iZipS3 X.K ta) := by
  refine ⟨fun pins s σ H R I h => ?_⟩
  refine Call_ (ld_blt I hg hm PyProof.Rows.boot_zip (PyProof.Rows.callWith_type1 (thn (ha.run pos pins s σ H _ I h) fun us s1 ⟨vs, H1, I1, r1, q1⟩ => ?_) hs hpl))
  obtain ⟨S, S', S'', xs, ys, zs, ex, hqx, hqy, hqz, q⟩ := q1
  subst ex
  cases r1 with
  | cons r rr =>
    cases rr with
    | cons r' rr =>
      cases rr with
      | cons r'' rr =>
        cases rr
        obtain ⟨o, Hq, B, hB, hat, hlt⟩ := Src.begins I1 hqx r
        obtain ⟨o', Hq', B', hB', hat', hlt'⟩ := Src.begins I1 hqy r'
        obtain ⟨o'', Hq'', B'', hB'', hat'', hlt''⟩ := Src.begins I1 hqz r''
        refine zip_begins3 B B' B'' hB hB' hB'' fun h' hz hTI hTO h1 h2 h3 hsz hk => wpAny_pyIter_zip hz ?_
        have I2 : Inv X pins σ H1 { s1 with heap := h' } := I1.kept (t' := s1.toks) hk
        refine ⟨s1.heap.objs.size + 5, [s1.heap.objs.size + 5, s1.heap.objs.size + 3, s1.heap.objs.size + 4, s1.heap.objs.size, s1.heap.objs.size + 1, s1.heap.objs.size + 2], _, _, H1, rfl, I2, turn_zipS3 S S' S'' s1.heap.objs.size hlt hlt' hlt'', ⟨hz, hTI, ⟨_, _, _, hTO⟩, hat _ _ h1, hat' _ _ h2, hat'' _ _ h3⟩, fun c hcm => ?_, q⟩
        have e' : c = s1.heap.objs.size + 5 ∨ c = s1.heap.objs.size + 3 ∨ c = s1.heap.objs.size + 4 ∨ c = s1.heap.objs.size ∨ c = s1.heap.objs.size + 1 ∨ c = s1.heap.objs.size + 2 := by simpa using hcm
        have hle : s1.heap.objs.size ≤ c := by
          rcases e' with z | z | z | z | z | z
          · rw [z]; exact Nat.le_add_right _ _
          · rw [z]; exact Nat.le_add_right _ _
          · rw [z]; exact Nat.le_add_right _ _
          · rw [z]; exact Nat.le_refl _
          · rw [z]; exact Nat.le_add_right _ _
          · rw [z]; exact Nat.le_add_right _ _
        exact I1.fpOk hle (I1.hok.fresh hle)
/-- a value of a display, a name, .. walked -/
def iSeqS (K : PySem.W.Frag) (te : TE) : TI := fun σ H R => te σ H fun x H1 => (∃ a, x = .ref a ∧ (∃ xs, SqL K H1 a xs) ∧ R (Itl K a) H1) ∨ (∃ a, x = .ref a ∧ (∃ xs, SqT K H1 a xs) ∧ R (Itt K a) H1) ∨ ∃ z, x = .str z ∧ R (Its z) H1
theorem pi_seqS {X : Cx} {tg l : PySem.Expr} {tl : TE} (hl : PE X l tl) : PI X tg l (iSeqS X.K tl) := by
  refine ⟨fun pins s σ H R I h => ?_⟩
  refine thn (hl.run pins s σ H _ I h) fun v s1 ⟨x, H1, I1, r1, q1⟩ => ?_
  rcases q1 with ⟨a, e, ⟨xs, hq⟩, q⟩ | ⟨a, e, ⟨xs, hq⟩, q⟩ | ⟨z, e, q⟩
  · subst e
    cases r1
    obtain ⟨its, rv, p, hz⟩ := I1.list hq
    exact wpAny_pyIter_list p.isList (pi_one (tk := s1.toks) I1 _ (turn_list a _) ⟨_, Heap.get?_push_size _ rfl, rfl, rfl⟩ q)
  · subst e
    cases r1
    obtain ⟨its, rv, p, hz⟩ := I1.tuple hq
    exact wpAny_pyIter_tuple (show s1.heap.IsTuple a its.toArray from p) (pi_one (tk := s1.toks) I1 _ (turn_tuple a _) ⟨_, Heap.get?_push_size _ rfl, rfl, rfl⟩ q)
  · subst e
    obtain ⟨t, rfl⟩ := r1
    cases ha : z.cps.all (· < 128)
    · exact wpAny_pyIter_wide ha (pi_one (tk := s1.toks) I1 _ (turn_str _ z t "str_iterator" (.inr rfl)) ⟨_, Heap.get?_push_size _ rfl, rfl, rfl⟩ q)
    · exact wpAny_pyIter_ascii ha (pi_one (tk := s1.toks) I1 _ (turn_str _ z t "str_ascii_iterator" (.inl rfl)) ⟨_, Heap.get?_push_size _ rfl, rfl, rfl⟩ q)
end DI
set_option maxHeartbeats 2000000
/-! # DI: targets, what is walked, list comprehensions -/
namespace DI
open PySem PySem.Spec L2

theorem _root_.L2.PI.w {X : Cx} {tg e : PySem.Expr} {t t' : TI} (h : PI X tg e t) (hw : ∀ σ H R, t' σ H R → t σ H R) : PI X tg e t' := ⟨fun pins s σ H R I q => h.run pins s σ H R I (hw σ H R q)⟩
theorem _root_.L2.PG.w {X : Cx} {tg : PySem.Expr} {t t' : TG} (h : PG X tg t) (hw : ∀ v σ H Q, t' v σ H Q → t v σ H Q) : PG X tg t' := ⟨fun pins s σ H v u Q I r q => h.run pins s σ H v u Q I r (hw v σ H Q q)⟩
theorem _root_.L2.PGs.w {X : Cx} {tg : List PySem.Expr} {t t' : TGs} (h : PGs X tg t) (hw : ∀ v σ H Q, t' v σ H Q → t v σ H Q) : PGs X tg t' := ⟨fun pins s σ H v u Q I r q => h.run pins s σ H v u Q I r (hw v σ H Q q)⟩

/-! ### targets -/
theorem wipe_get {σ : St} {i : Nat} : ∀ {vs : List Nat}, (wipe σ vs)[i]? = if i ∈ vs ∧ i < σ.length then some none else σ[i]?
  | [] => by simp [wipe]
  | v :: vs => by
    unfold wipe
    rw [List.getElem?_set]
    rw [wipe_length]
    by_cases hv : v = i
    · subst hv
      by_cases hl : v < σ.length
      · simp [hl]
      · rw [if_pos rfl, if_neg hl, if_neg (by simp [hl]), List.getElem?_eq_none (by omega)]
    · rw [if_neg hv, wipe_get (vs := vs)]
      have : (i ∈ v :: vs ∧ i < σ.length) ↔ (i ∈ vs ∧ i < σ.length) := by
        simp only [List.mem_cons]
        constructor
        · rintro ⟨h | h, hl⟩
          · exact absurd h.symm hv
          · exact ⟨h, hl⟩
        · rintro ⟨h, hl⟩; exact ⟨.inr h, hl⟩
      simp only [this]
theorem wipe_set {σ : St} {i : Nat} {x : Option V} {vs : List Nat} (h : i ∈ vs) : wipe (σ.set i x) vs = wipe σ vs := by
  apply List.ext_getElem?
  intro j
  rw [wipe_get, wipe_get, List.length_set, List.getElem?_set]
  by_cases hj : i = j
  · subst hj
    by_cases hl : i < σ.length
    · rw [if_pos ⟨h, hl⟩, if_pos ⟨h, hl⟩]
    · have h0 : ¬ (i ∈ vs ∧ i < σ.length) := fun z => hl z.2
      rw [if_neg h0, if_neg h0, if_pos rfl, if_neg hl, List.getElem?_eq_none (by omega)]
  · rw [if_neg hj]
theorem wipe_wipe {σ : St} {vs : List Nat} : wipe (wipe σ vs) vs = wipe σ vs := by
  apply List.ext_getElem?
  intro j
  rw [wipe_get, wipe_length]
  split
  · rename_i h
    rw [wipe_get, if_pos h]
  · rfl
theorem wipeP_get {σ : Sl} {i : Nat} {p : PV} : ∀ {vs : List Nat}, (wipeP σ vs)[i]? = some (some p) → σ[i]? = some (some p) ∧ i ∉ vs
  | [], h => ⟨h, by simp⟩
  | v :: vs, h => by
    unfold wipeP at h
    by_cases hi : v = i
    · subst hi
      by_cases hv : v < (wipeP σ vs).length
      · rw [List.getElem?_set_self hv] at h; cases h
      · rw [List.getElem?_eq_none (by simpa using hv)] at h; cases h
    · rw [List.getElem?_set_ne hi] at h
      obtain ⟨h1, h2⟩ := wipeP_get h
      exact ⟨h1, by simp only [List.mem_cons, not_or]; exact ⟨fun e => hi e.symm, h2⟩⟩
theorem wipeP_length (σ : Sl) : ∀ vs : List Nat, (wipeP σ vs).length = σ.length
  | [] => rfl
  | v :: vs => by unfold wipeP; rw [List.length_set, wipeP_length σ vs]
theorem SRep.wipe {G : Gd} {M : Store} {ι : List Addr} {H : Hp} {sp : Sl} {σ : St} (s : SRep G M ι H sp σ) (vs : List Nat) : SRep G M ι H (wipeP sp vs) (wipe σ vs) :=
  ⟨by rw [wipeP_length, wipe_length]; exact s.len, fun i p h => by
    obtain ⟨h1, h2⟩ := wipeP_get h
    obtain ⟨v, h3, h4⟩ := s.at_ i p h1
    exact ⟨v, by rw [wipe_get, if_neg (fun z => h2 z.1)]; exact h3, h4⟩⟩
def Sub (Hd H' : Hp) : Prop := ∀ a o, Hd a = some o → H' a = some o
theorem Sub.rfl' {H : Hp} : Sub H H := fun _ _ h => h
theorem Sub.rd {Hd H' : Hp} (s : Sub Hd H') {a : Addr} {u : HO} (h : Rd Hd a u) : Rd H' a u := h.elim (fun z => .inl (s a _ z)) fun ⟨o, z⟩ => .inr ⟨o, s a _ z⟩
theorem Sub.sqT {Hd H' : Hp} (s : Sub Hd H') {K : PySem.W.Frag} {a : Addr} {xs : List V} (h : SqT K Hd a xs) : SqT K H' a xs := h.elim (fun z => .inl (s.rd z)) .inr
def LG (G : Gd) (t : CT) : TG := fun v σ H Q => ∃ M ι Hd sp p, Sub Hd H ∧ SRep G M ι Hd sp σ ∧ Rp G ι Hd (Own M ι) p v ∧ ∃ sp', asg t p sp = some sp' ∧
  ∀ σ', SRep G M ι Hd sp' σ' → (∀ vs, (∀ i ∈ t.slots, i ∈ vs) → wipe σ' vs = wipe σ vs) → Q σ' H
def LGs (G : Gd) (ts : List CT) : TGs := fun vs σ H Q => ∃ M ι Hd sp ps, Sub Hd H ∧ SRep G M ι Hd sp σ ∧ Rps G ι Hd (Own M ι) ps vs ∧ ∃ sp', asgs ts ps sp = some sp' ∧
  ∀ σ', SRep G M ι Hd sp' σ' → (∀ ws, (∀ i ∈ CT.slotss ts, i ∈ ws) → wipe σ' ws = wipe σ ws) → Q σ' H
section
variable {G : Gd} {X : Cx} {pos : Pos}
theorem sg_name {i : Nat} {x : Str} (hN : X.N.Nodup) (hi : X.N[i]? = some x) (hx : Loc X.env.scope x) (hf : X.fn x = true ∨ X.env.scope.names.lookup x = some .local) : PG X (.Name x pos) (LG G (.name i)) :=
  (pg_name hN hi hx hf).w fun v σ H Q h => by
    obtain ⟨M, ι, Hd, sp, p, sb, s, r, sp', e, q⟩ := h
    simp only [asg] at e
    split at e
    · cases e
      exact q _ (s.set r i) fun vs hv => wipe_set (hv i (by simp [CT.slots]))
    · cases e
theorem sg_nil : PGs X [] (LGs G []) := pgs_nil.w fun v σ H Q h => by
  obtain ⟨M, ι, Hd, sp, ps, sb, s, r, sp', e, q⟩ := h
  cases ps with
  | nil =>
    cases r
    simp only [asgs] at e
    cases e
    exact ⟨rfl, q σ s fun ws _ => rfl⟩
  | cons p ps => simp [asgs] at e
theorem each_cons {e : PySem.Expr} {es : List PySem.Expr} {env : Env} (h : notStar e = true) : assignEach (e :: es) env = (false, assign e env) :: assignEach es env := by
  cases e <;> first | rfl | cases h
theorem each_len {env : Env} : ∀ {es : List PySem.Expr}, (assignEach es env).length = es.length
  | [] => rfl
  | e :: es => by
    have ih := @each_len env es
    cases e <;> (show (_ :: assignEach es env).length = _; simp [ih])
theorem each_none {env : Env} : ∀ {es : List PySem.Expr}, es.all notStar = true → (assignEach es env).findIdx? (·.1) = none
  | [], _ => rfl
  | e :: es, h => by
    rw [List.all_cons, Bool.and_eq_true] at h
    rw [each_cons h.1, List.findIdx?_cons, if_neg (by exact Bool.false_ne_true), each_none h.2]
    rfl
theorem sg_cons {e : PySem.Expr} {es : List PySem.Expr} {t : CT} {ts : List CT} (hn : notStar e = true) (h1 : PG X e (LG G t)) (h2 : PGs X es (LGs G ts)) : PGs X (e :: es) (LGs G (t :: ts)) :=
  (pgs_cons h1 h2 (by rw [each_cons hn]; rfl)).w fun v σ H Q h => by
    obtain ⟨M, ι, Hd, sp, ps, sb, s, r, sp', e, q⟩ := h
    cases r with
    | nil => simp [asgs] at e
    | cons r rr =>
      rename_i p v ps vs
      simp only [asgs] at e
      split at e
      · rename_i sp1 e1
        refine ⟨v, vs, rfl, M, ι, Hd, sp, p, sb, s, r, sp1, e1, fun σ1 s1 w1 => ⟨M, ι, Hd, sp1, ps, sb, s1, rr, sp', e, fun σ2 s2 w2 => q σ2 s2 fun ws hw => ?_⟩⟩
        rw [w2 ws fun i hi => hw i (by simp [CT.slotss, hi]), w1 ws fun i hi => hw i (by simp [CT.slotss, hi])]
      · cases e
theorem asgs_len : ∀ {ts : List CT} {ps : List PV} {sp sp' : Sl}, asgs ts ps sp = some sp' → ps.length = ts.length
  | [], [], _, _, _ => rfl
  | [], _ :: _, _, _, e => by simp [asgs] at e
  | _ :: _, [], _, _, e => by simp [asgs] at e
  | t :: ts, p :: ps, sp, sp', e => by
    simp only [asgs] at e
    split at e
    · simp [asgs_len e]
    · cases e
theorem sg_tup (hK : X.K = G.K) (hc : X.calm = true) {es : List PySem.Expr} {k : Nat} {ts : List CT} (hl : es.length = ts.length) (hns : es.all notStar = true) (h : PGs X es (LGs G ts)) : PG X (.Tuple es k pos) (LG G (.tup ts)) :=
  (pg_tup hc h each_len (each_none hns)).w fun v σ H Q h => by
    obtain ⟨M, ι, Hd, sp, p, sb, s, r, sp', e, q⟩ := h
    simp only [asg] at e
    split at e
    · cases r with
      | tup h1 h2 h3 =>
        have l1 := asgs_len e
        have l2 := h3.length
        exact ⟨_, _, rfl, sb.sqT (hK ▸ h1.sq), by omega, M, ι, Hd, sp, _, sb, s, h3, sp', e, fun σ' s' w' => q σ' s' w'⟩
    · cases e
end

/-! ### one address aside -/
def del (H : Hp) (D : Addr) : Hp := fun a => if a = D then none else H a
section
variable {H : Hp} {D : Addr} {o : HO}
theorem del_self : del H D D = none := if_pos rfl
theorem del_ne {a : Addr} (h : a ≠ D) : del H D a = H a := if_neg h
theorem upd_del : upd (del H D) D o = upd H D o := funext fun a => by
  by_cases h : a = D
  · subst h; rw [upd_same, upd_same]
  · rw [upd_ne h, upd_ne h, del_ne h]
theorem del_upd : del (upd H D o) D = del H D := funext fun a => by
  by_cases h : a = D
  · subst h; rw [del_self, del_self]
  · rw [del_ne h, del_ne h, upd_ne h]
theorem upd_id (h : H D = some o) : upd H D o = H := funext fun a => by
  by_cases e : a = D
  · subst e; rw [upd_same, h]
  · rw [upd_ne e]
theorem del_id (h : H D = none) : del H D = H := funext fun a => by
  by_cases e : a = D
  · subst e; rw [del_self, h]
  · rw [del_ne e]
theorem del_some {a : Addr} {u : HO} (h : del H D a = some u) : a ≠ D ∧ H a = some u := by
  by_cases e : a = D
  · subst e; rw [del_self] at h; cases h
  · rw [del_ne e] at h; exact ⟨e, h⟩
variable {G : Gd} {M : Store} {ι : List Addr} {od : Obj} {ws : List V}
theorem rd_undel {a : Addr} {u : HO} (h : Rd H a u) (hD : a ≠ D) : Rd (del H D) a u := h.elim (fun z => .inl (by rw [del_ne hD]; exact z)) fun ⟨o, z⟩ => .inr ⟨o, by rw [del_ne hD]; exact z⟩
mutual
theorem Rp.undel {O : Addr → Prop} (hz : H D = some (.frz od (.lst ws))) (hs : G.sw = false → D ≠ G.sa) : ∀ (p : PV) (v : V), Rp G ι H O p v → Rp G ι (del H D) O p v
  | .non, _, h => by cases h; exact .non
  | .bl b, _, h => by cases h; exact .bl b
  | .int i, _, h => by cases h; exact .int i
  | .str s, _, h => by cases h; exact .str s
  | .tup ps, _, h => by
    cases h with
    | tup h1 h2 h3 =>
      refine .tup (h1.elim (fun ⟨z, n⟩ => .inl ⟨rd_undel z fun e => ?_, n⟩) .inr) h2 (Rps.undel hz hs ps _ h3)
      subst e
      rcases z with z | ⟨o, z⟩ <;> (rw [hz] at z; cases z)
  | .lst ps, _, h => by
    cases h with
    | lst h1 h2 h3 =>
      refine .lst ⟨?_, h1.2⟩ h2 (Rps.undel hz hs ps _ h3)
      rw [del_ne fun e => by subst e; have z := h1.1; rw [hz] at z; cases z]
      exact h1.1
  | .ref n, _, h => by
    cases h with
    | ref h1 => exact .ref h1
  | .fn f, _, h => by
    cases h with
    | fn h1 h2 => exact .fn h1 h2
  | .ty n, _, h => by cases h; exact .ty n
  | .scr ns, _, h => by
    cases h with
    | scr h0 h1 => exact .scr h0 (h1.elim .inl fun z => .inr ⟨z.1, rd_undel z.2.1 fun e => hs z.1 (e.symm.trans h0), z.2.2⟩)
theorem Rps.undel {O : Addr → Prop} (hz : H D = some (.frz od (.lst ws))) (hs : G.sw = false → D ≠ G.sa) : ∀ (ps : List PV) (vs : List V), Rps G ι H O ps vs → Rps G ι (del H D) O ps vs
  | [], _, h => by cases h; exact .nil
  | p :: ps, _, h => by
    cases h with
    | cons h1 h2 => exact .cons (Rp.undel hz hs p _ h1) (Rps.undel hz hs ps _ h2)
end
theorem tabs_del {T : List (Addr × Str)} {a : Addr} (t : LamX.Tabs T H) (hn : ∀ o, H a = some o → (∀ ps, o ≠ .tbl ps) ∧ ∀ F, o ≠ .ext F) : LamX.Tabs T (del H a) := fun p hp => by
  obtain ⟨ps, h1, h2, h3⟩ := t p hp
  have ne : ∀ {b : Addr} {o : HO}, H b = some o → ((∃ ps, o = .tbl ps) ∨ ∃ F, o = .ext F) → del H a b = some o := fun {b o} e k => by
    rw [del_ne]
    · exact e
    · intro z
      subst z
      obtain ⟨k1, k2⟩ := hn o e
      rcases k with ⟨ps, k⟩ | ⟨F, k⟩
      · exact k1 _ k
      · exact k2 _ k
  refine ⟨ps, ne h1 (.inl ⟨_, rfl⟩), h2, fun pos cv hc => ?_⟩
  obtain ⟨c, e1, e2⟩ := h3 pos cv hc
  exact ⟨c, e1, ne e2 (.inr ⟨_, rfl⟩)⟩
theorem MRel.undel (m : MRel G M ι H) (hz : H D = some (.frz od (.lst ws))) (hs : G.sw = false → D ≠ G.sa) : MRel G M ι (del H D) := by
  refine ⟨fun z => by rw [del_ne (Ne.symm (hs z))]; exact m.sa z, m.len, m.inj, fun n o h => ?_, tabs_del m.tb fun o e => by rw [hz] at e; cases e; exact ⟨nofun, nofun⟩⟩
  obtain ⟨a, h1, h2⟩ := m.obj n o h
  refine ⟨a, h1, ?_⟩
  cases o with
  | lst ps =>
    obtain ⟨vs, k1, k2, k3⟩ := h2
    exact ⟨vs, by rw [del_ne fun e => by subst e; rw [hz] at k1; cases k1]; exact k1, k2, Rps.undel hz hs _ _ k3⟩
  | ins c fs =>
    obtain ⟨nm, fn, C, dx, fvs, k1, k2, k3, k4, k5, k6, k7⟩ := h2
    exact ⟨nm, fn, C, dx, fvs, k1, k2, by rw [del_ne fun e => by subst e; rw [hz] at k3; cases k3]; exact k3, k4, k5, k6, fun i f p q1 q2 => let ⟨v, q3, q4⟩ := k7 i f p q1 q2; ⟨v, q3, Rp.undel hz hs _ _ q4⟩⟩
  | dct kvs =>
    obtain ⟨vs, k1, k2, k3⟩ := h2
    exact ⟨vs, by rw [del_ne fun e => by subst e; rw [hz] at k1; cases k1]; exact k1, k2, Rps.undel hz hs _ _ k3⟩
theorem Ext.undel {M' : Store} {ι' : List Addr} {H' : Hp} {u : HO} (hD : H D = none) (e : Ext M ι (upd H D u) M' ι' H') : Ext M ι H M' ι' (del H' D) :=
  ⟨e.pre, fun a o h t n => by
    have hne : a ≠ D := fun z => by rw [z, hD] at h; cases h
    rw [del_ne hne]
    exact e.keep a o (by rw [upd_ne hne]; exact h) t n⟩
end

/-! ### what is walked -/
inductive Grow (Hd H' : Hp) : Hp → Hp → Prop
  | same : Grow Hd H' Hd H'
  | one {T : Addr} {u : HO} : H' T = none → Grow Hd H' (upd Hd T u) (upd H' T u)
structure SrcRep (G : Gd) (V : ItV) (M : Store) (ι : List Addr) (H : Hp) (S : Src) : Prop where
  len : V.items.length ≤ sizeLine
  has : ∀ M' ι' Hd, MRel G M' ι' Hd → Ext M ι H M' ι' Hd → gdOk M' V.gd → ∃ vs, (∀ H', Sub Hd H' → S.has G.K H' vs) ∧ Rps G ι' Hd (Own M' ι') V.items vs
structure ItRep (G : Gd) (V : ItV) (M : Store) (ι : List Addr) (H : Hp) (J : It) : Prop where
  len : V.items.length ≤ sizeLine
  go : ∀ M' ι' Hd H' (i : Nat) (x : PV), MRel G M' ι' Hd → Ext M ι H M' ι' Hd → gdOk M' V.gd → Sub Hd H' → V.items[i]? = some x → J.go i H' ∧ ∀ v H'', J.yld i H' v H'' → ∃ Hd', Grow Hd H' Hd' H'' ∧ MRel G M' ι' Hd' ∧ Ext M' ι' Hd M' ι' Hd' ∧ Rp G ι' Hd' (Own M' ι') x v
  stop : ∀ M' ι' Hd H', MRel G M' ι' Hd → Ext M ι H M' ι' Hd → gdOk M' V.gd → Sub Hd H' → J.stop V.items.length H'
section
variable {G : Gd} {M : Store} {ι : List Addr} {H : Hp} {V : ItV}
theorem srcRep (m : MRel G M ι H) {p : PV} {v : L2.V} (r : Rp G ι H (Own M ι) p v) (e : seqIt M p = some V) : ∃ S : Src, S.v = v ∧ SrcRep G V M ι H S := by
  cases r with
  | tup h1 h2 h3 =>
    rename_i a vs ps
    simp only [seqIt] at e
    cases e
    refine ⟨.t a, rfl, h2, fun M' ι' Hd m' e' _ => ⟨vs, fun H' sb => ?_, h3.ext e'⟩⟩
    rcases e'.fxT h1 with z | z
    · exact .inl (sb.rd z.1)
    · exact .inr z
  | lst h1 h2 h3 =>
    rename_i a vs ps
    simp only [seqIt] at e
    cases e
    exact ⟨.l a, rfl, h2, fun M' ι' Hd m' e' _ => ⟨vs, fun H' sb => .inl (.inl (sb _ _ (e'.fxL h1).1)), h3.ext e'⟩⟩
  | ref h1 =>
    rename_i n a
    simp only [seqIt] at e
    split at e
    · rename_i xs hx
      cases e
      obtain ⟨b, vs, e1, k1, k2, k3, k4, k5⟩ := m.lstAt hx (.ref h1)
      cases e1
      refine ⟨.l a, rfl, k4, fun M' ι' Hd m' e' g => ?_⟩
      have hx' : lstAt M' n = some xs := g (n, xs) (by simp)
      obtain ⟨b, vs', e1, q1, q2, q3, q4, q5⟩ := m'.lstAt hx' (.ref (e'.pre _ _ h1))
      cases e1
      exact ⟨vs', fun H' sb => .inl (.inl (sb _ _ q3)), q5⟩
    · cases e
  | str s =>
    simp only [seqIt] at e
    split at e
    · rename_i hz
      cases e
      refine ⟨.s s, rfl, by simpa [Str.length] using hz, fun M' ι' Hd m' e' _ => ⟨s.cps.toList.map fun c => .str ⟨#[c]⟩, fun H' sb => rfl, ?_⟩⟩
      generalize s.cps.toList = l
      induction l with
      | nil => exact .nil
      | cons c l ih => exact .cons (.str _) ih
    · cases e
  | _ => simp [seqIt] at e
/-- one after another -/
def Src.J (K : PySem.W.Frag) : Src → It
  | .l a => Itl K a
  | .t a => Itt K a
  | .s x => Its x
theorem SrcRep.seq {S : Src} (r : SrcRep G V M ι H S) : ItRep G V M ι H (S.J G.K) := by
  refine ⟨r.len, fun M' ι' Hd H' i x m' e' g sb hx => ?_, fun M' ι' Hd H' m' e' g sb => ?_⟩
  · obtain ⟨vs, h, rs⟩ := r.has M' ι' Hd m' e' g
    obtain ⟨v, hv, rv⟩ := rs.get hx
    have h := h H' sb
    cases S with
    | l a =>
      refine ⟨⟨vs, v, h, hv⟩, fun w H'' y => ?_⟩
      obtain ⟨e1, y⟩ := y
      subst e1
      have e2 := y vs h
      rw [hv] at e2
      cases e2
      exact ⟨Hd, .same, m', .refl, rv⟩
    | t a =>
      refine ⟨⟨vs, v, h, hv⟩, fun w H'' y => ?_⟩
      obtain ⟨e1, y⟩ := y
      subst e1
      have e2 := y vs h
      rw [hv] at e2
      cases e2
      exact ⟨Hd, .same, m', .refl, rv⟩
    | s z =>
      have h : vs = _ := h
      subst h
      rw [List.getElem?_map] at hv
      cases hc : z.cps.toList[i]? with
      | none => rw [hc] at hv; cases hv
      | some c =>
        rw [hc] at hv
        have hv : L2.V.str ⟨#[c]⟩ = v := by simpa using hv
        refine ⟨by have := (List.getElem?_eq_some_iff.mp hc).1; show i < z.cps.size; simpa using this, fun w H'' y => ?_⟩
        obtain ⟨e1, c', hc', e2⟩ := y
        subst e1 e2
        have hc2 : z.cps[i]? = some c := by simpa using hc
        rw [hc2] at hc'
        cases hc'
        rw [← hv] at rv
        exact ⟨Hd, .same, m', .refl, rv⟩
  · obtain ⟨vs, h, rs⟩ := r.has M' ι' Hd m' e' g
    have h := h H' sb
    have hl := rs.length
    cases S with
    | l a => exact ⟨vs, h, by omega⟩
    | t a => exact ⟨vs, h, by omega⟩
    | s z =>
      have h : vs = _ := h
      subst h
      show z.cps.size ≤ _
      simp at hl
      omega
theorem sz2 : 2 ≤ sizeLine := by decide
theorem enumL_get {xs : List PV} {i : Nat} : (enumL xs)[i]? = (xs[i]?).map fun p => .tup [.int (i : Nat), p] := by
  unfold enumL
  rw [List.getElem?_map, List.getElem?_zipIdx]
  cases xs[i]? <;> simp
theorem enumL_len {xs : List PV} : (enumL xs).length = xs.length := by simp [enumL]
theorem SrcRep.enum {S : Src} (r : SrcRep G V M ι H S) : ItRep G ⟨enumL V.items, V.gd⟩ M ι H (ItE G.K S) := by
  refine ⟨by rw [enumL_len]; exact r.len, fun M' ι' Hd H' i x m' e' g sb hx => ?_, fun M' ι' Hd H' m' e' g sb => ?_⟩
  · obtain ⟨vs, h, rs⟩ := r.has M' ι' Hd m' e' g
    rw [enumL_get] at hx
    cases hp : V.items[i]? with
    | none => rw [hp] at hx; cases hx
    | some p =>
      rw [hp] at hx
      have hx : PV.tup [.int (i : Nat), p] = x := by simpa using hx
      subst hx
      obtain ⟨v, hv, rv⟩ := rs.get hp
      have h := h H' sb
      refine ⟨⟨vs, v, h, hv⟩, fun w H'' y => ?_⟩
      obtain ⟨T, v', e1, hT, e2, y⟩ := y
      subst e1 e2
      have e3 := y vs h
      rw [hv] at e3
      cases e3
      have hTd : Hd T = none := Option.eq_none_iff_forall_not_mem.mpr fun o z => by have := sb T o z; rw [hT] at this; cases this
      exact ⟨_, .one hT, m'.new hTd, Ext.new hTd, m'.newRp hTd sz2 (.cons (.int _) (.cons rv .nil))⟩
  · obtain ⟨vs, h, rs⟩ := r.has M' ι' Hd m' e' g
    exact ⟨vs, h H' sb, by rw [enumL_len]; exact rs.length.symm⟩
theorem zipL_get {xs ys : List PV} {i : Nat} {z : PV} (h : (zipL xs ys)[i]? = some z) : ∃ p q, xs[i]? = some p ∧ ys[i]? = some q ∧ z = .tup [p, q] := by
  unfold zipL at h
  rw [List.getElem?_map] at h
  cases e : (xs.zip ys)[i]? with
  | none => rw [e] at h; cases h
  | some pq =>
    rw [e] at h
    obtain ⟨h1, h2⟩ := List.getElem?_zip_eq_some.mp e
    exact ⟨pq.1, pq.2, h1, h2, by simpa using h.symm⟩
theorem zipL_len {xs ys : List PV} : (zipL xs ys).length = min xs.length ys.length := by simp [zipL]
theorem SrcRep.zip {S S' : Src} {V' : ItV} (r : SrcRep G V M ι H S) (r' : SrcRep G V' M ι H S') : ItRep G ⟨zipL V.items V'.items, V.gd ++ V'.gd⟩ M ι H (ItZ G.K S S') := by
  have g1 : ∀ {M' : Store}, gdOk M' (V.gd ++ V'.gd) → gdOk M' V.gd := fun g p hp => g p (List.mem_append_left _ hp)
  have g2 : ∀ {M' : Store}, gdOk M' (V.gd ++ V'.gd) → gdOk M' V'.gd := fun g p hp => g p (List.mem_append_right _ hp)
  refine ⟨?_, fun M' ι' Hd H' i x m' e' g sb hx => ?_, fun M' ι' Hd H' m' e' g sb => ?_⟩
  · show (zipL V.items V'.items).length ≤ sizeLine
    rw [zipL_len]
    exact Nat.le_trans (Nat.min_le_left _ _) r.len
  · obtain ⟨vs, h, rs⟩ := r.has M' ι' Hd m' e' (g1 g)
    obtain ⟨us, k, ru⟩ := r'.has M' ι' Hd m' e' (g2 g)
    obtain ⟨p, q, hp, hq, rfl⟩ := zipL_get hx
    obtain ⟨v, hv, rv⟩ := rs.get hp
    obtain ⟨u, hu, ru⟩ := ru.get hq
    have h := h H' sb
    have k := k H' sb
    refine ⟨⟨vs, us, v, u, h, k, hv, hu⟩, fun w H'' y => ?_⟩
    obtain ⟨T, v', u', e1, hT, e2, y1, y2⟩ := y
    subst e1 e2
    have e3 := y1 vs h
    rw [hv] at e3
    cases e3
    have e4 := y2 us k
    rw [hu] at e4
    cases e4
    have hTd : Hd T = none := Option.eq_none_iff_forall_not_mem.mpr fun o z => by have := sb T o z; rw [hT] at this; cases this
    exact ⟨_, .one hT, m'.new hTd, Ext.new hTd, m'.newRp hTd sz2 (.cons rv (.cons ru .nil))⟩
  · obtain ⟨vs, h, rs⟩ := r.has M' ι' Hd m' e' (g1 g)
    obtain ⟨us, k, ru⟩ := r'.has M' ι' Hd m' e' (g2 g)
    have l1 := rs.length
    have l2 := ru.length
    refine ⟨vs, us, h H' sb, k H' sb, ?_⟩
    show (zipL V.items V'.items).length ≤ _ ∧ _
    rw [zipL_len]
    omega
theorem sz3' : 3 ≤ sizeLine := by decide
theorem zipL3_get {xs ys zs : List PV} {i : Nat} {w : PV} (h : (zipL3 xs ys zs)[i]? = some w) : ∃ p q r, xs[i]? = some p ∧ ys[i]? = some q ∧ zs[i]? = some r ∧ w = .tup [p, q, r] := by
  unfold zipL3 at h
  rw [List.getElem?_map] at h
  cases e : (xs.zip (ys.zip zs))[i]? with
  | none => rw [e] at h; cases h
  | some pq =>
    rw [e] at h
    obtain ⟨h1, h2⟩ := List.getElem?_zip_eq_some.mp e
    obtain ⟨h3, h4⟩ := List.getElem?_zip_eq_some.mp h2
    exact ⟨pq.1, pq.2.1, pq.2.2, h1, h3, h4, by simpa using h.symm⟩
theorem zipL3_len {xs ys zs : List PV} : (zipL3 xs ys zs).length = min xs.length (min ys.length zs.length) := by simp [zipL3]
theorem SrcRep.zip3 {S S' S'' : Src} {V' V'' : ItV} (r : SrcRep G V M ι H S) (r' : SrcRep G V' M ι H S') (r'' : SrcRep G V'' M ι H S'') : ItRep G ⟨zipL3 V.items V'.items V''.items, V.gd ++ (V'.gd ++ V''.gd)⟩ M ι H (ItZ3 G.K S S' S'') := by
  have g1 : ∀ {M' : Store}, gdOk M' (V.gd ++ (V'.gd ++ V''.gd)) → gdOk M' V.gd := fun g p hp => g p (List.mem_append_left _ hp)
  have g2 : ∀ {M' : Store}, gdOk M' (V.gd ++ (V'.gd ++ V''.gd)) → gdOk M' V'.gd := fun g p hp => g p (List.mem_append_right _ (List.mem_append_left _ hp))
  have g3 : ∀ {M' : Store}, gdOk M' (V.gd ++ (V'.gd ++ V''.gd)) → gdOk M' V''.gd := fun g p hp => g p (List.mem_append_right _ (List.mem_append_right _ hp))
  refine ⟨?_, fun M' ι' Hd H' i x m' e' g sb hx => ?_, fun M' ι' Hd H' m' e' g sb => ?_⟩
  · show (zipL3 V.items V'.items V''.items).length ≤ sizeLine
    rw [zipL3_len]
    exact Nat.le_trans (Nat.min_le_left _ _) r.len
  · obtain ⟨vs, h, rs⟩ := r.has M' ι' Hd m' e' (g1 g)
    obtain ⟨us, k, ru⟩ := r'.has M' ι' Hd m' e' (g2 g)
    obtain ⟨ws, l, rw_⟩ := r''.has M' ι' Hd m' e' (g3 g)
    obtain ⟨p, q, t, hp, hq, ht, rfl⟩ := zipL3_get hx
    obtain ⟨v, hv, rv⟩ := rs.get hp
    obtain ⟨u, hu, ru⟩ := ru.get hq
    obtain ⟨w, hw, rw_⟩ := rw_.get ht
    have h := h H' sb
    have k := k H' sb
    have l := l H' sb
    refine ⟨⟨vs, us, ws, v, u, w, h, k, l, hv, hu, hw⟩, fun w H'' y => ?_⟩
    obtain ⟨T, v', u', w', e1, hT, e2, y1, y2, y3⟩ := y
    subst e1 e2
    have e3 := y1 vs h
    rw [hv] at e3
    cases e3
    have e4 := y2 us k
    rw [hu] at e4
    cases e4
    have e5 := y3 ws l
    rw [hw] at e5
    cases e5
    have hTd : Hd T = none := Option.eq_none_iff_forall_not_mem.mpr fun o z => by have := sb T o z; rw [hT] at this; cases this
    exact ⟨_, .one hT, m'.new hTd, Ext.new hTd, m'.newRp hTd sz3' (.cons rv (.cons ru (.cons rw_ .nil)))⟩
  · obtain ⟨vs, h, rs⟩ := r.has M' ι' Hd m' e' (g1 g)
    obtain ⟨us, k, ru⟩ := r'.has M' ι' Hd m' e' (g2 g)
    obtain ⟨ws, l, rw_⟩ := r''.has M' ι' Hd m' e' (g3 g)
    have l1 := rs.length
    have l2 := ru.length
    have l3 := rw_.length
    refine ⟨vs, us, ws, h H' sb, k H' sb, l H' sb, ?_⟩
    show (zipL3 V.items V'.items V''.items).length ≤ _ ∧ _
    rw [zipL3_len]
    omega
end
end DI
set_option maxHeartbeats 2000000
/-! # DI: iterables, list comprehensions: the rules -/
namespace DI
open PySem PySem.Spec L2

def PostI (G : Gd) (W : WX) (σ : St) (M : Store) (ι : List Addr) (H : Hp) (R : It → Hp → Prop) : Res ItV → Prop
  | .ok V M' => ∀ ι' H' J, MRel G M' ι' H' → Ext M ι H M' ι' H' → ItRep G V M' ι' H' J → R J H'
  | .exc x M' => ∀ ι' H' cv d, MRel G M' ι' H' → Ext M ι H M' ι' H' → XRep G ι' H' (Own M' ι') x cv d → W.at x.hot cv d σ H'
  | .bad => False
def LI (G : Gd) (W : WX) (c : Ev ItV) : TI := fun σ H R => ∃ M ι sp, MRel G M ι H ∧ SRep G M ι H sp σ ∧ PostI G W σ M ι H R (c sp M)
theorem SrcRep.ext {G : Gd} {V : ItV} {M M1 : Store} {ι ι1 : List Addr} {H H1 : Hp} {S : Src} (r : SrcRep G V M ι H S) (e : Ext M ι H M1 ι1 H1) : SrcRep G V M1 ι1 H1 S :=
  ⟨r.len, fun M' ι' Hd m' e' g => r.has M' ι' Hd m' (e.trans e') g⟩
theorem ItRep.ext {G : Gd} {V : ItV} {M M1 : Store} {ι ι1 : List Addr} {H H1 : Hp} {J : It} (r : ItRep G V M ι H J) (e : Ext M ι H M1 ι1 H1) : ItRep G V M1 ι1 H1 J :=
  ⟨r.len, fun M' ι' Hd H' i x m' e' => r.go M' ι' Hd H' i x m' (e.trans e'), fun M' ι' Hd H' m' e' => r.stop M' ι' Hd H' m' (e.trans e')⟩
theorem seqIt_gd {M : Store} {p : PV} {V : ItV} (e : seqIt M p = some V) : gdOk M V.gd := by
  unfold seqIt at e
  split at e
  · cases e; exact fun _ h => nomatch h
  · cases e; exact fun _ h => nomatch h
  · split at e
    · rename_i h
      cases e
      intro p hp
      have e2 := List.mem_singleton.mp hp
      subst e2
      exact h
    · cases e
  · split at e
    · cases e; exact fun _ h => nomatch h
    · cases e
  · cases e
section
variable {G : Gd} {W : WX} {σ : St} {M M1 : Store} {ι ι1 : List Addr} {H H1 : Hp} {R : It → Hp → Prop}
theorem PostI.from {r : Res ItV} (h : PostI G W σ M ι H R r) (e : Ext M ι H M1 ι1 H1) : PostI G W σ M1 ι1 H1 R r := by
  cases r with
  | ok V M' => exact fun ι' H' J a b c => h ι' H' J a (e.trans b) c
  | exc x M' => exact fun ι' H' cv d a b c => h ι' H' cv d a (e.trans b) c
  | bad => exact h
theorem PostE.bindI {Q1 : VK} {r : Res PV} {k : PV → Store → Res ItV} (h : PostI G W σ M ι H R (r.bind k))
    (hq : ∀ p M1 ι1 H1 v, MRel G M1 ι1 H1 → Ext M ι H M1 ι1 H1 → Rp G ι1 H1 (Own M1 ι1) p v → PostI G W σ M1 ι1 H1 R (k p M1) → Q1 v H1) : PostE G W σ M ι H Q1 r := by
  cases r with
  | ok p M1 => exact fun ι1 H1 v a b c => hq p M1 ι1 H1 v a b c (PostI.from (r := k p M1) h b)
  | exc x M1 => exact h
  | bad => exact h
theorem PostA.bindI {Q1 : List V → Hp → Prop} {r : Res (List PV)} {k : List PV → Store → Res ItV} (h : PostI G W σ M ι H R (r.bind k))
    (hq : ∀ ps M1 ι1 H1 vs, MRel G M1 ι1 H1 → Ext M ι H M1 ι1 H1 → Rps G ι1 H1 (Own M1 ι1) ps vs → PostI G W σ M1 ι1 H1 R (k ps M1) → Q1 vs H1) : PostA G W σ M ι H Q1 r := by
  cases r with
  | ok p M1 => exact fun ι1 H1 v a b c => hq p M1 ι1 H1 v a b c (PostI.from (r := k p M1) h b)
  | exc x M1 => exact h
  | bad => exact h
theorem bind_assoc {α β γ : Type} (r : Res α) (k : α → Store → Res β) (l : β → Store → Res γ) : (r.bind k).bind l = r.bind fun a M => (k a M).bind l := by
  cases r <;> rfl
end
def enumK : List PV → Store → Res ItV
  | [p], M => match seqIt M p with
    | some J => .ok ⟨enumL J.items, J.gd⟩ M
    | none => .bad
  | _, _ => .bad
def zipK : List PV → Store → Res ItV
  | [p, q], M => match seqIt M p, seqIt M q with
    | some J, some J' => .ok ⟨zipL J.items J'.items, J.gd ++ J'.gd⟩ M
    | _, _ => .bad
  | _, _ => .bad
section
variable {G : Gd} {W : WX} {X : Cx} {pos p : Pos} {tg a b c : PySem.Expr} {ca cb cc : Ev PV}
/-- arguments, plain -/
theorem sa1 (hn : notStar a = true) (ha : PE X a (LE G W ca)) : PA X [a] (LA G W fun sp M => (ca sp M).bind fun p M1 => .ok [p] M1) :=
  (sa_cons hn ha sa_nil).w fun σ H Q h => h
theorem sa2 (hn : notStar a = true) (hn2 : notStar b = true) (ha : PE X a (LE G W ca)) (hb : PE X b (LE G W cb)) : PA X [a, b] (LA G W fun sp M => (ca sp M).bind fun p M1 => (cb sp M1).bind fun q M2 => .ok [p, q] M2) :=
  (sa_cons hn ha (sa1 hn2 hb)).w fun σ H Q h => by
    obtain ⟨M, ι, sp, m, s, post⟩ := h
    refine ⟨M, ι, sp, m, s, ?_⟩
    simp only [bind_assoc]
    exact post
theorem sa3 (hn : notStar a = true) (hn2 : notStar b = true) (hn3 : notStar c = true) (ha : PE X a (LE G W ca)) (hb : PE X b (LE G W cb)) (hc : PE X c (LE G W cc)) :
    PA X [a, b, c] (LA G W fun sp M => (ca sp M).bind fun p M1 => (cb sp M1).bind fun q M2 => (cc sp M2).bind fun r M3 => .ok [p, q, r] M3) :=
  (sa_cons hn ha (sa2 hn2 hn3 hb hc)).w fun σ H Q h => by
    obtain ⟨M, ι, sp, m, s, post⟩ := h
    refine ⟨M, ι, sp, m, s, ?_⟩
    simp only [bind_assoc]
    exact post
theorem si_seq (hK : X.K = G.K) (ha : PE X a (LE G W ca)) : PI X tg a (LI G W fun sp M => (ca sp M).bind fun p M1 => .ofO (seqIt M1 p) M1) :=
  (pi_seqS ha).w fun σ H R h => by
    obtain ⟨M, ι, sp, m, s, post⟩ := h
    refine ⟨M, ι, sp, m, s, PostE.bindI post fun p M1 ι1 H1 v m1 e1 r1 post1 => ?_⟩
    cases e : seqIt M1 p with
    | none => rw [e] at post1; exact post1.elim
    | some V =>
      rw [e] at post1
      obtain ⟨S, hv, sr⟩ := srcRep m1 r1 e
      have q := post1 ι1 H1 _ m1 .refl sr.seq
      obtain ⟨vs, h, _⟩ := sr.has M1 ι1 H1 m1 .refl (seqIt_gd e)
      have h := h H1 Sub.rfl'
      rw [hK]
      cases S with
      | l a => exact .inl ⟨a, hv.symm, ⟨vs, h⟩, q⟩
      | t a => exact .inr (.inl ⟨a, hv.symm, ⟨vs, h⟩, q⟩)
      | s z => exact .inr (.inr ⟨z, hv.symm, q⟩)
theorem si_enum (hK : X.K = G.K) {elts : List PySem.Expr} {kk : Nat} {tpos : Pos} (hg : Gl X "enumerate") (hm : X.mg "enumerate" = none) (hn : notStar a = true) (ha : PE X a (LE G W ca)) :
    PI X (.Tuple elts kk tpos) (.Call (.Name "enumerate" p) [a] [] pos) (LI G W fun sp M => (ca sp M).bind fun p M1 => match seqIt M1 p with
    | some J => .ok ⟨enumL J.items, J.gd⟩ M1
    | none => .bad) :=
  (pi_enumS hg hm (sa1 hn ha) (by rw [star_cons hn]; rfl)).w fun σ H R h => by
    obtain ⟨M, ι, sp, m, s, post⟩ := h
    refine ⟨M, ι, sp, m, s, ?_⟩
    have post : PostI G W σ M ι H R (((ca sp M).bind fun p M1 => .ok [p] M1).bind fun ps M1 => enumK ps M1) := by rw [bind_assoc]; exact post
    refine PostA.bindI post fun ps M1 ι1 H1 vs m1 e1 r1 post1 => ?_
    unfold enumK at post1
    split at post1
    · obtain ⟨v, rfl, rp⟩ := r1.one
      split at post1
      · rename_i J e
        obtain ⟨S, hv, sr⟩ := srcRep m1 rp e
        have q := post1 ι1 H1 _ m1 .refl sr.enum
        obtain ⟨vs, h, _⟩ := sr.has M1 ι1 H1 m1 .refl (seqIt_gd e)
        rw [hK]
        exact ⟨S, vs, by rw [hv], h H1 Sub.rfl', q⟩
      · exact post1.elim
    · exact post1.elim
theorem si_zip (hK : X.K = G.K) {elts : List PySem.Expr} {kk : Nat} {tpos : Pos} (hg : Gl X "zip") (hm : X.mg "zip" = none) (hn : notStar a = true) (hn2 : notStar b = true) (ha : PE X a (LE G W ca)) (hb : PE X b (LE G W cb)) :
    PI X (.Tuple elts kk tpos) (.Call (.Name "zip" p) [a, b] [] pos) (LI G W fun sp M => (ca sp M).bind fun p M1 => (cb sp M1).bind fun q M2 => match seqIt M2 p, seqIt M2 q with
    | some J, some J' => .ok ⟨zipL J.items J'.items, J.gd ++ J'.gd⟩ M2
    | _, _ => .bad) :=
  (pi_zipS hg hm (sa2 hn hn2 ha hb) (star_cons hn) (star_none (by simp [hn2]))).w fun σ H R h => by
    obtain ⟨M, ι, sp, m, s, post⟩ := h
    refine ⟨M, ι, sp, m, s, ?_⟩
    have post : PostI G W σ M ι H R (((ca sp M).bind fun p M1 => (cb sp M1).bind fun q M2 => .ok [p, q] M2).bind fun ps M2 => zipK ps M2) := by simp only [bind_assoc]; exact post
    refine PostA.bindI post fun ps M1 ι1 H1 vs m1 e1 r1 post1 => ?_
    unfold zipK at post1
    split at post1
    · obtain ⟨v, w, rfl, rp, rq⟩ := r1.two
      split at post1
      · rename_i J J' e e'
        obtain ⟨S, hv, sr⟩ := srcRep m1 rp e
        obtain ⟨S', hv', sr'⟩ := srcRep m1 rq e'
        have q := post1 ι1 H1 _ m1 .refl (sr.zip sr')
        obtain ⟨vs, h, _⟩ := sr.has M1 ι1 H1 m1 .refl (seqIt_gd e)
        obtain ⟨vs', h', _⟩ := sr'.has M1 ι1 H1 m1 .refl (seqIt_gd e')
        rw [hK]
        exact ⟨S, S', vs, vs', by rw [hv, hv'], h H1 Sub.rfl', h' H1 Sub.rfl', q⟩
      · exact post1.elim
    · exact post1.elim
theorem _root_.DI.Rps.three {G : Gd} {ι : List Addr} {H : Hp} {O : Addr → Prop} {p q t : PV} {vs : List V} (r : Rps G ι H O [p, q, t] vs) : ∃ v w u, vs = [v, w, u] ∧ Rp G ι H O p v ∧ Rp G ι H O q w ∧ Rp G ι H O t u := by
  cases r with
  | cons a r => cases r with
    | cons b r => cases r with
      | cons c r => cases r; exact ⟨_, _, _, rfl, a, b, c⟩
def zipK3 : List PV → Store → Res ItV
  | [p, q, r], M => match seqIt M p, seqIt M q, seqIt M r with
    | some J, some J', some J'' => .ok ⟨zipL3 J.items J'.items J''.items, J.gd ++ (J'.gd ++ J''.gd)⟩ M
    | _, _, _ => .bad
  | _, _ => .bad
theorem si_zip3 (hK : X.K = G.K) {elts : List PySem.Expr} {kk : Nat} {tpos : Pos} (hg : Gl X "zip") (hm : X.mg "zip" = none) (hn : notStar a = true) (hn2 : notStar b = true) (hn3 : notStar c = true) (ha : PE X a (LE G W ca)) (hb : PE X b (LE G W cb)) (hc : PE X c (LE G W cc)) :
    PI X (.Tuple elts kk tpos) (.Call (.Name "zip" p) [a, b, c] [] pos) (LI G W fun sp M => (ca sp M).bind fun p M1 => (cb sp M1).bind fun q M2 => (cc sp M2).bind fun r M3 => match seqIt M3 p, seqIt M3 q, seqIt M3 r with
    | some J, some J', some J'' => .ok ⟨zipL3 J.items J'.items J''.items, J.gd ++ (J'.gd ++ J''.gd)⟩ M3
    | _, _, _ => .bad) :=
  (pi_zipS3 hg hm (sa3 hn hn2 hn3 ha hb hc) (star_cons hn) (star_none (by simp [hn2, hn3]))).w fun σ H R h => by
    obtain ⟨M, ι, sp, m, s, post⟩ := h
    refine ⟨M, ι, sp, m, s, ?_⟩
    have post : PostI G W σ M ι H R (((ca sp M).bind fun p M1 => (cb sp M1).bind fun q M2 => (cc sp M2).bind fun r M3 => .ok [p, q, r] M3).bind fun ps M2 => zipK3 ps M2) := by simp only [bind_assoc]; exact post
    refine PostA.bindI post fun ps M1 ι1 H1 vs m1 e1 r1 post1 => ?_
    unfold zipK3 at post1
    split at post1
    · obtain ⟨v, w, u, rfl, rp, rq, rr⟩ := r1.three
      split at post1
      · rename_i J J' J'' e e' e''
        obtain ⟨S, hv, sr⟩ := srcRep m1 rp e
        obtain ⟨S', hv', sr'⟩ := srcRep m1 rq e'
        obtain ⟨S'', hv'', sr''⟩ := srcRep m1 rr e''
        have q := post1 ι1 H1 _ m1 .refl (sr.zip3 sr' sr'')
        obtain ⟨vs, h, _⟩ := sr.has M1 ι1 H1 m1 .refl (seqIt_gd e)
        obtain ⟨vs', h', _⟩ := sr'.has M1 ι1 H1 m1 .refl (seqIt_gd e')
        obtain ⟨vs'', h'', _⟩ := sr''.has M1 ι1 H1 m1 .refl (seqIt_gd e'')
        rw [hK]
        exact ⟨S, S', S'', vs, vs', vs'', by rw [hv, hv', hv''], h H1 Sub.rfl', h' H1 Sub.rfl', h'' H1 Sub.rfl', q⟩
      · exact post1.elim
    · exact post1.elim
theorem rngL_get {lo c : Int} {n i : Nat} : (rngL lo c n)[i]? = if i < n then some (.int (lo + (i : Nat) * c)) else none := by
  unfold rngL
  rw [List.getElem?_map]
  by_cases h : i < n
  · rw [List.getElem?_range h, if_pos h]; rfl
  · rw [List.getElem?_eq_none (by simpa using h), if_neg h]; rfl
theorem rngL_len {lo c : Int} {n : Nat} : (rngL lo c n).length = n := by simp [rngL]
theorem itRng {M : Store} {ι : List Addr} {H : Hp} {lo : Int} {n : Nat} (hn : n ≤ sizeLine) : ItRep G ⟨rngL lo 1 n, []⟩ M ι H (Itr lo n) := by
  refine ⟨by rw [rngL_len]; exact hn, fun M' ι' Hd H' i x m' e' g sb hx => ?_, fun M' ι' Hd H' m' e' g sb => ?_⟩
  · rw [rngL_get] at hx
    split at hx
    · rename_i hi
      cases hx
      refine ⟨hi, fun v H'' y => ?_⟩
      obtain ⟨e1, e2⟩ := y
      subst e1 e2
      rw [Int.mul_one]
      exact ⟨Hd, .same, m', .refl, .int _⟩
    · cases hx
  · show n ≤ _
    rw [rngL_len]
    exact Nat.le_refl _
theorem itRngC {M : Store} {ι : List Addr} {H : Hp} {lo c : Int} {n : Nat} (hn : n ≤ sizeLine) : ItRep G ⟨rngL lo c n, []⟩ M ι H (Itc lo c n) := by
  refine ⟨by rw [rngL_len]; exact hn, fun M' ι' Hd H' i x m' e' g sb hx => ?_, fun M' ι' Hd H' m' e' g sb => ?_⟩
  · rw [rngL_get] at hx
    split at hx
    · rename_i hi
      cases hx
      refine ⟨hi, fun v H'' y => ?_⟩
      obtain ⟨e1, e2⟩ := y
      subst e1 e2
      exact ⟨Hd, .same, m', .refl, .int _⟩
    · cases hx
  · show n ≤ _
    rw [rngL_len]
    exact Nat.le_refl _
theorem si_rng1 (hg : Gl X "range") (hm : X.mg "range" = none) (hn : notStar a = true) (ha : PE X a (LE G W ca)) :
    PI X tg (.Call (.Name "range" p) [a] [] pos) (LI G W fun sp M => (ca sp M).bind fun p M1 => match p with
    | .int n => .ofO (rngIt 0 n) M1
    | _ => .bad) :=
  (pi_range1 hg hm (sa1 hn ha) (by rw [star_cons hn]; rfl)).w fun σ H R h => by
    obtain ⟨M, ι, sp, m, s, post⟩ := h
    refine ⟨M, ι, sp, m, s, ?_⟩
    have post : PostI G W σ M ι H R (((ca sp M).bind fun p M1 => .ok [p] M1).bind fun ps M1 => match ps with | [.int n] => .ofO (rngIt 0 n) M1 | _ => .bad) := by
      rw [bind_assoc]
      dsimp only at post
      cases e : ca sp M with
      | ok p M1 =>
        rw [e] at post
        cases p <;> exact post
      | exc x M1 => rw [e] at post; exact post
      | bad => rw [e] at post; exact post
    refine PostA.bindI post fun ps M1 ι1 H1 vs m1 e1 r1 post1 => ?_
    split at post1
    · obtain ⟨v, rfl, rp⟩ := r1.one
      cases rp
      unfold rngIt at post1
      split at post1
      · rename_i hh
        simp only [rngOk, Bool.and_eq_true, decide_eq_true_eq] at hh
        obtain ⟨⟨h1, h2⟩, h3⟩ := hh
        rw [Int.sub_zero] at post1 h3
        exact ⟨_, rfl, h2.1, h2.2, post1 ι1 H1 _ m1 .refl (itRng h3)⟩
      · exact post1.elim
    · exact post1.elim
theorem si_rng2 (hg : Gl X "range") (hm : X.mg "range" = none) (hn : notStar a = true) (hn2 : notStar b = true) (ha : PE X a (LE G W ca)) (hb : PE X b (LE G W cb)) :
    PI X tg (.Call (.Name "range" p) [a, b] [] pos) (LI G W fun sp M => (ca sp M).bind fun p M1 => (cb sp M1).bind fun q M2 => match p, q with
    | .int i, .int j => .ofO (rngIt i j) M2
    | _, _ => .bad) :=
  (pi_range2 hg hm (sa2 hn hn2 ha hb) (by rw [star_cons hn, star_cons hn2]; rfl) (by rw [star_cons hn2]; rfl)).w fun σ H R h => by
    obtain ⟨M, ι, sp, m, s, post⟩ := h
    refine ⟨M, ι, sp, m, s, ?_⟩
    have post : PostI G W σ M ι H R (((ca sp M).bind fun p M1 => (cb sp M1).bind fun q M2 => .ok [p, q] M2).bind fun ps M2 => match ps with | [.int i, .int j] => .ofO (rngIt i j) M2 | _ => .bad) := by
      simp only [bind_assoc]
      dsimp only at post
      cases e : ca sp M with
      | ok p M1 =>
        rw [e] at post
        simp only [Res.bind] at post ⊢
        cases e2 : cb sp M1 with
        | ok q M2 =>
          rw [e2] at post
          cases p <;> cases q <;> exact post
        | exc x M1 => rw [e2] at post; exact post
        | bad => rw [e2] at post; exact post
      | exc x M1 => rw [e] at post; exact post
      | bad => rw [e] at post; exact post
    refine PostA.bindI post fun ps M1 ι1 H1 vs m1 e1 r1 post1 => ?_
    split at post1
    · obtain ⟨v, w, rfl, rp, rq⟩ := r1.two
      cases rp
      cases rq
      unfold rngIt at post1
      split at post1
      · rename_i hh
        simp only [rngOk, Bool.and_eq_true, decide_eq_true_eq] at hh
        obtain ⟨⟨h1, h2⟩, h3⟩ := hh
        exact ⟨_, _, rfl, ⟨h1.1, h1.2, h2.1, h2.2⟩, post1 ι1 H1 _ m1 .refl (itRng h3)⟩
      · exact post1.elim
    · exact post1.elim
theorem si_rng3 (hg : Gl X "range") (hm : X.mg "range" = none) (hn : notStar a = true) (hn2 : notStar b = true) (hn3 : notStar c = true) (ha : PE X a (LE G W ca)) (hb : PE X b (LE G W cb)) (hc : PE X c (LE G W cc)) :
    PI X tg (.Call (.Name "range" p) [a, b, c] [] pos) (LI G W fun sp M => (ca sp M).bind fun p M1 => (cb sp M1).bind fun q M2 => (cc sp M2).bind fun r M3 => match p, q, r with
    | .int i, .int j, .int k => .ofO (rngIt3 i j k) M3
    | _, _, _ => .bad) :=
  (pi_range3 hg hm (sa3 hn hn2 hn3 ha hb hc) (star_cons hn) (star_none (by simp [hn2, hn3]))).w fun σ H R h => by
    obtain ⟨M, ι, sp, m, s, post⟩ := h
    refine ⟨M, ι, sp, m, s, ?_⟩
    have post : PostI G W σ M ι H R (((ca sp M).bind fun p M1 => (cb sp M1).bind fun q M2 => (cc sp M2).bind fun r M3 => .ok [p, q, r] M3).bind fun ps M3 => match ps with | [.int i, .int j, .int k] => .ofO (rngIt3 i j k) M3 | _ => .bad) := by
      simp only [bind_assoc]
      dsimp only at post
      cases e : ca sp M with
      | ok p M1 =>
        rw [e] at post
        simp only [Res.bind] at post ⊢
        cases e2 : cb sp M1 with
        | ok q M2 =>
          rw [e2] at post
          simp only [Res.bind] at post ⊢
          cases e3 : cc sp M2 with
          | ok r M3 =>
            rw [e3] at post
            cases p <;> cases q <;> cases r <;> exact post
          | exc x M1 => rw [e3] at post; exact post
          | bad => rw [e3] at post; exact post
        | exc x M1 => rw [e2] at post; exact post
        | bad => rw [e2] at post; exact post
      | exc x M1 => rw [e] at post; exact post
      | bad => rw [e] at post; exact post
    refine PostA.bindI post fun ps M1 ι1 H1 vs m1 e1 r1 post1 => ?_
    split at post1
    · cases r1 with
      | cons rp r1 =>
        obtain ⟨w, z, rfl, rq, rr⟩ := r1.two
        cases rp
        cases rq
        cases rr
        unfold rngIt3 at post1
        split at post1
        · rename_i hh
          simp only [rngOk, Bool.and_eq_true, decide_eq_true_eq] at hh
          obtain ⟨⟨⟨h1, h2⟩, h3⟩, h4⟩ := hh
          subst h3
          exact ⟨_, _, _, _, rfl, RgC.neg h1.1 h1.2 h2.1 h2.2, post1 ι1 H1 _ m1 .refl (itRngC h4)⟩
        · exact post1.elim
    · exact post1.elim
end
end DI
set_option maxHeartbeats 2000000
/-! # DI: list comprehensions -/
namespace DI
open PySem PySem.Spec L2

theorem _root_.L2.PTs.w {X : Cx} {es : List PySem.Expr} {t t' : TT} (h : PTs X es t) (hw : ∀ σ H Q, t' σ H Q → t σ H Q) : PTs X es t' := ⟨fun pins s σ H Q I q => h.run pins s σ H Q I (hw σ H Q q)⟩
def tLockT (t : TT) : TT := fun σ H Q => ∃ d u, H d = some u ∧ Mut (some u) ∧ ∀ od, t σ (upd H d (.frz od u)) fun v H' => H' d = some (.frz od u) ∧ Q v (upd H' d u)
def W0 : WX := .two fun _ _ _ _ => False
theorem takes0 {X : Cx} : Takes X W0 := .two LamX.takes0
section
variable {X : Cx} {G : Gd}
theorem pt_lock {e : PySem.Expr} {t : TT} (h : PT X e t) : PT X e (tLockT t) := by
  refine ⟨fun pins s σ H Q I hw => ?_⟩
  obtain ⟨d, u, hd, mu, hw⟩ := hw
  obtain ⟨od, I1⟩ := I.lock hd mu
  refine thn (h.run pins s σ _ _ I1 (hw od)) fun v s1 ⟨H1, I2, e2, q⟩ => ?_
  exact ⟨_, I2.unlock e2 (I.nofrz hd mu), q⟩
theorem sts_nil : PTs X [] (tLockT (LT G W0 fun _ M => .ok true M)) := pts_nil.w fun σ H Q h => by
  obtain ⟨d, u, hd, mu, h⟩ := h
  obtain ⟨M, ι, sp, m, s, post⟩ := h { cls := .none, data := .fields #[] }
  obtain ⟨_, q⟩ := post ι _ m .refl
  have e : upd (upd H d (.frz { cls := .none, data := .fields #[] } u)) d u = H := by
    funext a
    by_cases h : a = d
    · subst h; rw [upd_same, hd]
    · rw [upd_ne h, upd_ne h]
  rw [e] at q
  exact q
theorem sts_one {e : PySem.Expr} {t : TT} (h : PT X e t) : PTs X [e] (tLockT t) := pts_one (pt_lock h)
end
theorem PostI.bind {G : Gd} {W : WX} {σ : St} {M : Store} {ι : List Addr} {H : Hp} {Q : VK} {R : It → Hp → Prop} {r : Res ItV} {k : ItV → Store → Res PV} (h : PostE G W σ M ι H Q (r.bind k))
    (hq : ∀ V M1 ι1 H1 J, MRel G M1 ι1 H1 → Ext M ι H M1 ι1 H1 → ItRep G V M1 ι1 H1 J → PostE G W σ M1 ι1 H1 Q (k V M1) → R J H1) : PostI G W σ M ι H R r := by
  cases r with
  | ok V M1 => exact fun ι1 H1 J a b c => hq V M1 ι1 H1 J a b c (PostE.from (r := k V M1) h b)
  | exc x M1 => exact h
  | bad => exact h
def stepC (t : CT) (vs : List Nat) (cc : Ev Bool) (ce : Ev PV) (sp : Sl) : PV → Store → Res (Option PV) := fun x M2 => match asg t x (wipeP sp vs) with
  | some sp1 => match cc sp1 M2 with
    | .ok true M3 => (ce sp1 M3).bind fun y M4 => .ok (some y) M4
    | .ok false M3 => .ok none M3
    | _ => .bad
  | none => .bad
theorem del_upd_ne {H : Hp} {D T : Addr} {u : HO} (h : T ≠ D) : upd (del H D) T u = del (upd H T u) D := funext fun a => by
  by_cases e : a = T
  · subst e; rw [upd_same, del_ne h, upd_same]
  · by_cases e2 : a = D
    · subst e2; rw [upd_ne e, del_self, del_self]
    · rw [upd_ne e, del_ne e2, del_ne e2, upd_ne e]
theorem sub_del {H : Hp} {D : Addr} : Sub (del H D) H := fun a o h => (del_some h).2
/-- what the turns have so far -/
theorem compR_next {G : Gd} {W : WX} {σ : St} {M : Store} {ι : List Addr} {H : Hp} {Q : VK} {gd : List (Nat × List PV)} {step : PV → Store → Res (Option PV)} {ys : List PV} {x : PV} {xs : List PV} {M0 : Store} {o : Option PV}
    (h : PostE G W σ M ι H Q ((match compR gd step xs M0 with | .ok zs M2 => (.ok (o.toList ++ zs) M2 : Res (List PV)) | _ => .bad).bind fun r M2 => .ok (.lst (ys ++ r)) M2)) :
    PostE G W σ M ι H Q ((compR gd step xs M0).bind fun r M2 => .ok (.lst ((ys ++ o.toList) ++ r)) M2) := by
  cases e : compR gd step xs M0 with
  | ok zs M2 =>
    rw [e] at h
    simp only [Res.bind, List.append_assoc] at h ⊢
    exact h
  | exc x M2 => rw [e] at h; exact h.elim
  | bad => rw [e] at h; exact h.elim
section
variable {X : Cx} {G : Gd} {W : WX} {pos : Pos}
theorem se_comp_w {ci : Ev ItV} {cc : Ev Bool} {ce : Ev PV} {t : CT} {vs : List Nat} (hsl : ∀ i ∈ t.slots, i ∈ vs) {σ : St} {H : Hp} {Q : VK}
    (h : LE G W (fun sp M => (ci sp M).bind fun J M1 => (compR J.gd (stepC t vs cc ce sp) J.items M1).bind fun ys M2 => .ok (.lst ys) M2) σ H Q) :
    tLc (LI G W ci) (LG G t) (tLockT (LT G W0 cc)) (tLockE (LE G W0 ce)) vs σ H Q := by
  obtain ⟨M, ι, sp, m, s, post⟩ := h
  refine ⟨M, ι, sp, m, s, PostI.bind post fun V M1 ι1 H1 J m1 e1 ir post1 => ?_⟩
  intro D hD
  have s1 := s.ext e1
  have hs : G.sw = false → D ≠ G.sa := fun z e => sa_some (m1.sa z) (by rw [← e]; exact hD)
  refine ⟨fun i mm H => ∃ Mi ιi acc ys, mm = V.items.length - i ∧ i ≤ V.items.length ∧ H D = some (.lst acc) ∧ MRel G Mi ιi (del H D) ∧ Ext M1 ι1 H1 Mi ιi (del H D) ∧ Rps G ιi (del H D) (Own Mi ιi) ys acc ∧ ys.length ≤ i ∧
    PostE G W σ Mi ιi (del H D) Q ((compR V.gd (stepC t vs cc ce sp) (V.items.drop i) Mi).bind fun r M2 => .ok (.lst (ys ++ r)) M2), ⟨V.items.length, M1, ι1, [], [], rfl, Nat.zero_le _, upd_same, ?_⟩, ?_⟩
  · rw [del_upd, del_id hD]
    exact ⟨m1, .refl, .nil, Nat.le_refl _, post1⟩
  rintro i mm H ⟨Mi, ιi, acc, ys, rfl, hi, hHD, mi, ei, ry, hl, posti⟩
  have hu : upd (del H D) D (.lst acc) = H := by rw [upd_del, upd_id hHD]
  by_cases hlt : i < V.items.length
  · rw [List.drop_eq_getElem_cons hlt] at posti
    have hx : V.items[i]? = some V.items[i] := List.getElem?_eq_getElem hlt
    generalize V.items[i] = x at hx posti
    unfold compR gdIf at posti
    by_cases hgd : gdOk Mi V.gd
    case neg => rw [if_neg hgd] at posti; exact posti.elim
    rw [if_pos hgd] at posti
    obtain ⟨jgo, jy⟩ := ir.go Mi ιi (del H D) H i x mi ei hgd sub_del hx
    refine .inr ⟨jgo, fun H' => ∃ Mi ιi acc ys, V.items.length - (i + 1) = V.items.length - (i + 1) ∧ i + 1 ≤ V.items.length ∧ H' D = some (.lst acc) ∧ MRel G Mi ιi (del H' D) ∧ Ext M1 ι1 H1 Mi ιi (del H' D) ∧ Rps G ιi (del H' D) (Own Mi ιi) ys acc ∧ ys.length ≤ i + 1 ∧
      PostE G W σ Mi ιi (del H' D) Q ((compR V.gd (stepC t vs cc ce sp) (V.items.drop (i + 1)) Mi).bind fun r M2 => .ok (.lst (ys ++ r)) M2), fun H' hn => ⟨_, by omega, hn⟩, fun v H'' y => ?_⟩
    obtain ⟨Hd', gr, m2, e2, rv⟩ := jy v H'' y
    have hH : Hd' = del H'' D ∧ H'' D = some (.lst acc) := by
      cases gr with
      | same => exact ⟨rfl, hHD⟩
      | one hT =>
        rename_i T u
        have hne : T ≠ D := fun z => by rw [z, hHD] at hT; cases hT
        exact ⟨del_upd_ne hne, by rw [upd_ne (Ne.symm hne)]; exact hHD⟩
    obtain ⟨rfl, hHD2⟩ := hH
    have s2 : SRep G Mi ιi (del H'' D) sp σ := s1.ext (ei.trans e2)
    unfold stepC at posti
    cases ea : asg t x (wipeP sp vs) with
    | none => simp only [ea] at posti; exact posti.elim
    | some sp1 =>
    simp only [ea] at posti
    refine ⟨Mi, ιi, del H'' D, wipeP sp vs, x, sub_del, s2.wipe vs, rv, sp1, ea, fun σ2 sr2 hw => ⟨(hw vs hsl).trans wipe_wipe, D, _, hHD2, trivial, fun od => ?_⟩⟩
    have hDd : (del H'' D) D = none := del_self
    have eu : ∀ o, upd H'' D o = upd (del H'' D) D o := fun o => upd_del.symm
    rw [eu]
    refine ⟨Mi, ιi, sp1, m2.new hDd, sr2.ext (Ext.new hDd), ?_⟩
    cases ec : cc sp1 Mi with
    | bad => simp only [ec] at posti; exact posti.elim
    | exc x M3 => simp only [ec] at posti; exact posti.elim
    | ok b M3 =>
    rw [ec] at posti
    intro ι3 H3 m3 e3
    have hz3 : H3 D = some (.frz od (.lst acc)) := (e3.keep D _ upd_same nofun (m2.not_own hDd)).1
    refine ⟨hz3, ?_⟩
    have m3' := m3.undel hz3 hs
    have e3' := Ext.undel hDd e3
    have eall := ei.trans (e2.trans e3')
    have hdel3 : ∀ o, del (upd H3 D o) D = del H3 D := fun o => del_upd
    cases b with
    | false =>
      show if false = true then _ else _
      rw [if_neg Bool.false_ne_true]
      refine ⟨M3, ι3, acc, ys, rfl, by omega, upd_same, ?_⟩
      rw [hdel3]
      have q := (compR_next (x := x) (o := none) posti).from (e2.trans e3')
      rw [show (none : Option PV).toList = [] from rfl, List.append_nil] at q
      exact ⟨m3', eall, ry.ext (e2.trans e3'), by omega, q⟩
    | true =>
      show if true = true then _ else _
      rw [if_pos rfl]
      refine ⟨D, _, upd_same, trivial, fun od2 => ?_⟩
      have hDd3 : (del H3 D) D = none := del_self
      have eu3 : upd (upd H3 D (.lst acc)) D (.frz od2 (.lst acc)) = upd (del H3 D) D (.frz od2 (.lst acc)) := by
        rw [← upd_del (H := upd H3 D (.lst acc)), hdel3]
      rw [eu3]
      refine ⟨M3, ι3, sp1, m3'.new hDd3, (sr2.ext e3').ext (Ext.new hDd3), ?_⟩
      simp only at posti
      cases ee : ce sp1 M3 with
      | bad => rw [ee] at posti; exact posti.elim
      | exc x M4 => rw [ee] at posti; exact posti.elim
      | ok y M4 =>
      rw [ee] at posti
      intro ι4 H4 w m4 e4 r4
      have hz4 : H4 D = some (.frz od2 (.lst acc)) := (e4.keep D _ upd_same nofun (m3'.not_own hDd3)).1
      have m4' := m4.undel hz4 hs
      have e4' := Ext.undel hDd3 e4
      have le : acc.length = ys.length := ry.length.symm
      have lz := ir.len
      refine ⟨hz4, acc, upd_same, by omega, M4, ι4, acc ++ [w], ys ++ [y], rfl, by omega, upd_same, ?_⟩
      have hd4 : del (upd (upd H4 D (.lst acc)) D (.lst (acc ++ [w]))) D = del H4 D := by rw [del_upd, del_upd]
      rw [hd4]
      refine ⟨m4', eall.trans e4', Rps.append (ry.ext ((e2.trans e3').trans e4')) (.cons (Rp.undel hz4 hs _ _ r4) .nil), by simp; omega, ?_⟩
      exact (compR_next (x := x) (o := some y) posti).from ((e2.trans e3').trans e4')
  · have e : i = V.items.length := by omega
    rw [e, List.drop_length] at posti
    unfold compR gdIf at posti
    by_cases hgd : gdOk Mi V.gd
    case neg => rw [if_neg hgd] at posti; exact posti.elim
    rw [if_pos hgd] at posti
    have hDd : (del H D) D = none := del_self
    refine .inl ⟨by rw [e]; exact ir.stop Mi ιi (del H D) H mi ei hgd sub_del, ?_⟩
    have lz := ir.len
    have mH := mi.new (o := .lst acc) hDd
    have eH := Ext.new (M := Mi) (ι := ιi) (o := .lst acc) hDd
    rw [hu] at mH eH
    refine posti ιi H _ mH eH ?_
    rw [List.append_nil]
    exact .lst ⟨hHD, mi.not_own hDd⟩ (by omega) (ry.ext eH)
theorem se_comp {elt tg iter : PySem.Expr} {ifs : List PySem.Expr} {scope : Scope} {own : List (Str × Nat)} {ci : Ev ItV} {cc : Ev Bool} {ce : Ev PV} {t : CT} (hc : X.calm = true) (hN : X.N.Nodup) (hi : PI X tg iter (LI G W ci)) (ok : BlkOk X.N X.env.scope scope own)
    (hg : ∀ (s : Shared) (H : Hp) (C : Addr) (cl : List (Str × Addr)) (fp : List Addr), PG (X.blk s H scope (compEnvC scope cl C X.env) fp) tg (LG G t))
    (ht : ∀ (s : Shared) (H : Hp) (C : Addr) (cl : List (Str × Addr)) (fp : List Addr), PTs (X.blk s H scope (compEnvC scope cl C X.env) fp) ifs (tLockT (LT G W0 cc)))
    (he : ∀ (s : Shared) (H : Hp) (C : Addr) (cl : List (Str × Addr)) (fp : List Addr), PE (X.blk s H scope (compEnvC scope cl C X.env) fp) elt (LE G W0 ce))
    (hs : ∀ x, foldedSetIterable iter X.env x = pure x) (hsl : ∀ i ∈ t.slots, i ∈ own.map (·.2)) :
    PE X (.ListComp elt [⟨tg, iter, ifs, 0⟩] scope pos) (LE G W fun sp M => (ci sp M).bind fun J M1 => (compR J.gd (stepC t (own.map (·.2)) cc ce sp) J.items M1).bind fun ys M2 => .ok (.lst ys) M2) :=
  (pe_lc hc hN hi ok hg ht (fun s H C cl fp => pe_lock (he s H C cl fp)) hs).w fun σ H Q h => se_comp_w hsl h
theorem ss_setLc {i : Nat} {y : Str} {py spos : Pos} {elt tg iter : PySem.Expr} {ifs : List PySem.Expr} {scope : Scope} {own : List (Str × Nat)} {ci : Ev ItV} {cc : Ev Bool} {ce : Ev PV} {t : CT} (hc : X.calm = true) (hN : X.N.Nodup) (hy : X.N[i]? = some y) (hyl : X.env.scope.names.lookup y = some .local)
    (hsw : swapsWith (.ListComp elt [⟨tg, iter, ifs, 0⟩] scope pos) (some (.Name y py)) spos.line X.env = pure true) (hi : PI X tg iter (LI G W ci)) (ok : BlkOk X.N X.env.scope scope own)
    (hg : ∀ (s : Shared) (H : Hp) (C : Addr) (cl : List (Str × Addr)) (fp : List Addr), PG (X.blk s H scope (compEnvC scope cl C X.env) fp) tg (LG G t))
    (ht : ∀ (s : Shared) (H : Hp) (C : Addr) (cl : List (Str × Addr)) (fp : List Addr), PTs (X.blk s H scope (compEnvC scope cl C X.env) fp) ifs (tLockT (LT G W0 cc)))
    (he : ∀ (s : Shared) (H : Hp) (C : Addr) (cl : List (Str × Addr)) (fp : List Addr), PE (X.blk s H scope (compEnvC scope cl C X.env) fp) elt (LE G W0 ce))
    (hs : ∀ x, foldedSetIterable iter X.env x = pure x) (hsl : ∀ i ∈ t.slots, i ∈ own.map (·.2)) :
    PS X (.Assign [.Name y py] (.ListComp elt [⟨tg, iter, ifs, 0⟩] scope pos) spos) (tAsg (LE G W fun sp M => (ci sp M).bind fun J M1 => (compR J.gd (stepC t (own.map (·.2)) cc ce sp) J.items M1).bind fun ys M2 => .ok (.lst ys) M2) (gName i)) :=
  (ps_setLc hc hN hy hyl hsw hi ok hg ht (fun s H C cl fp => pe_lock (he s H C cl fp)) hs).w fun D σ H h => se_comp_w hsl h
end
end DI
set_option maxHeartbeats 2000000
/-! # DI: and, or, tests, calls of built-in functions, append -/
namespace DI
open PySem PySem.Spec L2

section
variable {G : Gd} {W : WX} {X : Cx} {pos p : Pos} {a b c e : PySem.Expr} {rest es : List PySem.Expr} {ca cb cc cr : Ev PV}
theorem se_and (ha : PE X a (LE G W ca)) (hb : PE X (.BoolOp .And (b :: rest) pos) (LE G W cr)) : PE X (.BoolOp .And (a :: b :: rest) pos) (LE G W fun sp M => (ca sp M).bind (andK (cr sp))) :=
  (pe_and ha hb).w fun σ H Q h => by
    obtain ⟨M, ι, sp, m, s, post⟩ := h
    refine ⟨M, ι, sp, m, s, post.bind fun p M1 ι1 H1 v m1 e1 r1 post1 => ?_⟩
    unfold andK at post1
    split at post1
    · cases r1; exact ⟨true, rfl, by rw [if_pos rfl]; exact ⟨_, ι1, sp, m1, s.ext e1, post1⟩⟩
    · cases r1; exact ⟨false, rfl, by rw [if_neg Bool.false_ne_true]; exact post1 ι1 H1 _ m1 .refl (.bl _)⟩
    · exact post1.elim
theorem se_or (ha : PE X a (LE G W ca)) (hb : PE X (.BoolOp .Or (b :: rest) pos) (LE G W cr)) : PE X (.BoolOp .Or (a :: b :: rest) pos) (LE G W fun sp M => (ca sp M).bind (orK (cr sp))) :=
  (pe_or ha hb).w fun σ H Q h => by
    obtain ⟨M, ι, sp, m, s, post⟩ := h
    refine ⟨M, ι, sp, m, s, post.bind fun p M1 ι1 H1 v m1 e1 r1 post1 => ?_⟩
    unfold orK at post1
    split at post1
    · cases r1; exact ⟨true, rfl, by rw [if_pos rfl]; exact post1 ι1 H1 _ m1 .refl (.bl _)⟩
    · cases r1; exact ⟨false, rfl, by rw [if_neg Bool.false_ne_true]; exact ⟨_, ι1, sp, m1, s.ext e1, post1⟩⟩
    · exact post1.elim
/-! ### tests -/
theorem LT.le {σ : St} {H : Hp} {Q : Bool → Hp → Prop} (h : LT G W (fun sp M => evTr (ca sp M)) σ H Q) : LE G W ca σ H fun x H1 => ∃ k, x = .bl k ∧ Q k H1 := by
  obtain ⟨M, ι, sp, m, s, post⟩ := h
  refine ⟨M, ι, sp, m, s, PostE.bindT post fun p M1 ι1 H1 v m1 e1 r1 post1 => ?_⟩
  split at post1
  · cases r1; exact ⟨_, rfl, post1 ι1 H1 m1 .refl⟩
  · exact post1.elim
theorem st_val (hp : plainT e = true) (he : PE X e (LE G W ca)) : PT X e (LT G W fun sp M => evTr (ca sp M)) :=
  (pt_val he (isTrue_of hp)).w fun σ H Q h => h.le
theorem st_cmp (hK : X.K = G.K) (hu : X.A.units + 66 < cLine) {op : CmpOp} (hn : notSet b = true) (ha : PE X a (LE G W ca)) (hb : PE X b (LE G W cb)) : PT X (.Compare a [op] [b] pos) (LT G W fun sp M => evTr ((ca sp M).bind fun p M1 => (cb sp M1).bind fun q M2 => .ofO (cmpP op M2 p q) M2)) :=
  (pt_cmpR (pr_cmp hK (by omega) op) ha hb (behind_of hn)).w fun σ H Q h => h.le.two
theorem st_cmp2 (hK : X.K = G.K) (hu : X.A.units + 66 < cLine) {op op2 : CmpOp} (ha : PE X a (LE G W ca)) (hb : PE X b (LE G W cb)) (hc : PE X c (LE G W cc)) (hl : lastMarks [op, op2] [b, c] = false) :
    PT X (.Compare a [op, op2] [b, c] pos) (LT G W fun sp M => evTr ((ca sp M).bind fun p M1 => (cb sp M1).bind fun q M2 => match cmpP op M2 p q with
    | some (.bl true) => (cc sp M2).bind fun r M3 => .ofO (cmpP op2 M3 q r) M3
    | some (.bl false) => .ok (.bl false) M2
    | _ => .bad)) :=
  (pt_chain (pr_cmp hK (by omega) op) (pr_cmp hK (by omega) op2) ha hb hc hl).w fun σ H Q h => chain_w h.le
theorem st_not (ha : PT X a (LT G W fun sp M => evTr (ca sp M))) : PT X (.UnaryOp .Not a pos) (LT G W fun sp M => evTr ((ca sp M).bind fun p M1 => match p with | .bl b => .ok (.bl (!b)) M1 | _ => .bad)) :=
  (pt_not ha).w fun σ H Q h => by
    obtain ⟨M, ι, sp, m, s, post⟩ := h
    refine ⟨M, ι, sp, m, s, ?_⟩
    dsimp only at post ⊢
    cases e : ca sp M with
    | bad => rw [e] at post; exact post
    | exc x M1 => rw [e] at post; exact post
    | ok p M1 =>
      rw [e] at post
      cases p <;> exact post
theorem st_and (ha : PT X a (LT G W fun sp M => evTr (ca sp M))) (hb : PW X (.BoolOp .And (b :: rest) pos) (LT G W fun sp M => evTr (cr sp M))) : PW X (.BoolOp .And (a :: b :: rest) pos) (LT G W fun sp M => evTr ((ca sp M).bind (andK (cr sp)))) :=
  (pw_and ha hb).w fun σ H Q h => by
    obtain ⟨M, ι, sp, m, s, post⟩ := h
    refine ⟨M, ι, sp, m, s, PostT.bindT (Q := Q) (r := evTr (ca sp M)) (k := fun k M1 => if k = true then evTr (cr sp M1) else .ok false M1) ?_ fun k M1 ι1 H1 m1 e1 post1 => ?_⟩
    · dsimp only at post ⊢
      cases e : ca sp M with
      | bad => rw [e] at post; exact post
      | exc x M1 => rw [e] at post; exact post
      | ok p M1 =>
        rw [e] at post
        cases p with
        | bl k => cases k <;> exact post
        | _ => exact post
    · cases k with
      | true => rw [if_pos rfl] at post1 ⊢; exact ⟨_, ι1, sp, m1, s.ext e1, post1⟩
      | false => rw [if_neg Bool.false_ne_true] at post1 ⊢; exact post1 ι1 H1 m1 .refl
theorem st_or (ha : PT X a (LT G W fun sp M => evTr (ca sp M))) (hb : PW X (.BoolOp .Or (b :: rest) pos) (LT G W fun sp M => evTr (cr sp M))) : PW X (.BoolOp .Or (a :: b :: rest) pos) (LT G W fun sp M => evTr ((ca sp M).bind (orK (cr sp)))) :=
  (pw_or ha hb).w fun σ H Q h => by
    obtain ⟨M, ι, sp, m, s, post⟩ := h
    refine ⟨M, ι, sp, m, s, PostT.bindT (Q := Q) (r := evTr (ca sp M)) (k := fun k M1 => if k = true then .ok true M1 else evTr (cr sp M1)) ?_ fun k M1 ι1 H1 m1 e1 post1 => ?_⟩
    · dsimp only at post ⊢
      cases e : ca sp M with
      | bad => rw [e] at post; exact post
      | exc x M1 => rw [e] at post; exact post
      | ok p M1 =>
        rw [e] at post
        cases p with
        | bl k => cases k <;> exact post
        | _ => exact post
    · cases k with
      | true => rw [if_pos rfl] at post1 ⊢; exact post1 ι1 H1 m1 .refl
      | false => rw [if_neg Bool.false_ne_true] at post1 ⊢; exact ⟨_, ι1, sp, m1, s.ext e1, post1⟩
/-! ### calls of built-in functions -/
theorem pr_bi (hK : X.K = G.K) (hc : X.calm = true) (hg : X.A.guards = some []) (hu : X.A.units + 66 < cLine) : ∀ b : BI, CallR X (biV b) (LRN G (biP b))
  | .len => pr_len hK
  | .abs => pr_abs
  | .int => pr_intF
  | .sum => pr_sum hK hc
  | .all => pr_all hc
  | .any => pr_any hc
  | .tuple => pr_tuple hK
  | .list => pr_list hK
  | .min => pr_min hK hu hc
  | .max => pr_max hK hu hc
  | .repr => pr_repr hK hg hu
  | .isinst => pr_isinst hK
theorem bi_boot : ∀ b : BI, bootBuiltins (biNm b) = some (biV b) := by
  intro b; cases b <;> decide +kernel
theorem se_callB {bi : BI} {car : Ev (List PV)} (hr : CallR X (biV bi) (LRN G (biP bi))) (hg : Gl X (biNm bi)) (hm : X.mg (biNm bi) = none) (hns : (e :: es).all notStar = true) (ha : PA X (e :: es) (LA G W car)) :
    PE X (.Call (.Name (biNm bi) p) (e :: es) [] pos) (LE G W fun sp M => (car sp M).bind fun ps M1 => .ofO (biP bi M1 ps) M1) := by
  rw [List.all_cons, Bool.and_eq_true] at hns
  have hb := bi_boot bi
  cases bi <;> first
    | exact (pe_callB hr hg hm hb ha (by decide) (by decide) (star_cons hns.1) (star_none hns.2)).w fun σ H Q h => LA.call h
    | exact (pe_callTy hr hg hm hb ha (by decide) (by decide) (star_cons hns.1) (star_none hns.2)).w fun σ H Q h => LA.call h
theorem se_listR {ca : Ev PV} {a : PySem.Expr} (hK : X.K = G.K) (hg : Gl X "list") (hm : X.mg "list" = none) (hn : notStar a = true) (ha : PE X a (LE G W ca)) :
    PE X (.Call (.Name "list" p) [a] [] pos) (LE G W fun sp M => (ca sp M).bind fun q M1 => listRK M1 q) := by
  refine (pe_callTy call_list_of hg hm (bi_boot .list) (sa1 hn ha) (by decide) (by decide) (star_cons hn) rfl).w fun σ H Q h => ?_
  obtain ⟨M, ι, sp, m, s, post⟩ := h
  refine ⟨M, ι, sp, m, s, ?_⟩
  dsimp only at post ⊢
  cases er : ca sp M with
  | bad => rw [er] at post; exact post.elim
  | exc x M1 => rw [er] at post; exact post
  | ok q M1 =>
    rw [er] at post
    have post : PostE G W σ M ι H Q (listRK M1 q) := post
    intro ι1 H1 vs m1 e1 r1
    obtain ⟨v, rfl, rv⟩ := r1.one
    unfold listRK at post
    split at post
    · rename_i xs hi
      have fin : ∀ {vs : List V}, xs.length ≤ sizeLine → Rps G ι1 H1 (Own M1 ι1) xs vs → ∀ l, H1 l = none → Q (.ref l) (upd H1 l (.lst vs)) := fun hz r l hl => post _ _ _ (m1.pushL hl hz r) (e1.trans (Ext.push m1 hl)) (.ref (by rw [← m1.len]; exact push_last _ _))
      unfold listIt at hi
      split at hi
      · cases hi
        cases rv with
        | tup h1 h2 h3 => exact ⟨_, _, rfl, .inr (hK ▸ h1.sq), fin h2 h3⟩
      · obtain ⟨b, vs, rfl, h3, h4, h5⟩ := m1.itemsL hi rv
        exact ⟨_, _, rfl, .inl (SqL.of h3), fin h4 h5⟩
    · exact post.elim
/-! ### methods of lists -/
def LM (G : Gd) (m : BM) : V → List V → Hp → VK → Prop := fun x vs H Q => ∃ M ι p ps, MRel G M ι H ∧ Rp G ι H (Own M ι) p x ∧ Rps G ι H (Own M ι) ps vs ∧ match bmP m M p ps with
  | some (r, M') => ∀ ι' H' v, MRel G M' ι' H' → Ext M ι H M' ι' H' → Rp G ι' H' (Own M' ι') r v → Q v H'
  | none => False
def bmId : BM → String
  | .append => "list.append" | .pop => "list.pop" | .extend => "list.extend" | .insert => "list.insert"
theorem lm_append {x : V} {vs : List V} {H : Hp} {Q : VK} (h : LM G .append x vs H Q) : rAppend x vs H Q := by
  obtain ⟨M, ι, p, ps, m, r, rs, post⟩ := h
  simp only [bmP] at post
  unfold appP at post
  split at post
  case h_2 => exact post.elim
  rename_i hh
  split at hh
  · rename_i n q
    split at hh
    · rename_i xs hx
      split at hh
      · rename_i hz
        cases hh
        obtain ⟨a, ws, rfl, h1, h2, h3, h4, h5⟩ := m.lstAt hx r
        obtain ⟨v, rfl, rv⟩ := rs.one
        have hl := h5.length
        refine ⟨a, ws, v, rfl, rfl, h3, by omega, post ι _ _ (m.writeL h2 h1 (by simp; omega) (h5.append (.cons rv .nil))) (Ext.write h2 h1) .non⟩
      · cases hh
    · cases hh
  · cases hh
theorem tyM_tyV {K : PySem.W.Frag} {M : Store} {ι : List Addr} {H : Hp} (m : MRel G M ι H) {p : PV} {x : V} (r : Rp G ι H (Own M ι) p x) (h : tyM M p = true) : tyV K "list" x H := by
  unfold tyM at h
  split at h
  · cases e : lstAt M _ with
    | none => rw [e] at h; cases h
    | some xs =>
      obtain ⟨a, ws, rfl, h1, h2, h3, h4, h5⟩ := m.lstAt e r
      exact .inl ⟨rfl, ws, SqL.of h3⟩
  · cases h
theorem bm_all {x : PySem.Expr} {xs : List PySem.Expr} {cpos : Pos} {env : Env} (hns : (x :: xs).all notStar = true) (hl : xs.length < 28) : ((backTo cpos (starEach (x :: xs) env)).all (fun x => !x.1) && (backToKw cpos (keywordEach [] env)).all (fun x => x.1.isSome)
      && decide ((x :: xs).length + ([] : List Keyword).length + (if ([] : List Keyword).isEmpty then 0 else 1) < 30)) = true := by
  have h1 : ∀ {es : List PySem.Expr}, es.all notStar = true → (backTo cpos (starEach es env)).all (fun x => !x.1) = true := fun {es} => by
    induction es with
    | nil => exact fun _ => rfl
    | cons e es ih =>
      intro h
      rw [List.all_cons, Bool.and_eq_true] at h
      rw [star_cons h.1]
      show (!false && (backTo cpos (starEach es env)).all (fun x => !x.1)) = true
      rw [ih h.2]
      rfl
  rw [h1 hns]
  simp only [List.length_cons, List.length_nil, List.isEmpty_nil, if_true, Bool.true_and, Bool.and_eq_true, decide_eq_true_eq]
  exact ⟨rfl, by omega⟩
theorem se_append {o : PySem.Expr} {apos cpos : Pos} {co : Ev PV} {car : Ev (List PV)} (hn : notCall o = true) (hns : (e :: es).all notStar = true) (hle : es.length < 28) (hline : (apos.endLine == cpos.line) = true) (ho : PE X o (LE G W co)) (ha : PA X (e :: es) (LA G W car)) :
    PE X (.Call (.Attribute o "append" apos) (e :: es) [] cpos) (LE G W fun sp M => (co sp M).bind fun p M1 => if tyM M1 p = true then (car sp M1).bind fun ps M2 => bmR .append M2 p ps else .bad) := by
  have hns' := hns
  rw [List.all_cons, Bool.and_eq_true] at hns'
  refine (pe_bm PySem.F.plainAttrs_list PySem.F.slot_list_append PySem.F.type_list_append mt_append ho ha (base_of hn) (bm_all hns hle) hline (star_cons hns'.1) (star_none hns'.2)).w fun σ H Q h => ?_
  obtain ⟨M, ι, sp, m, s, post⟩ := h
  refine ⟨M, ι, sp, m, s, post.bind fun p M1 ι1 H1 v m1 e1 r1 post1 => ?_⟩
  split at post1
  · rename_i ht
    refine ⟨tyM_tyV m1 r1 ht, M1, ι1, sp, m1, s.ext e1, PostA.bind post1 fun ps M2 ι2 H2 vs m2 e2 r2 post2 => lm_append ⟨M2, ι2, p, ps, m2, r1.ext e2, r2, ?_⟩⟩
    cases hh : bmP .append M2 p ps with
    | none =>
      simp only [bmR, hh] at post2
      exact post2.elim
    | some q =>
      obtain ⟨r, M3⟩ := q
      simp only [bmR, hh] at post2
      first
        | exact post2
        | (rw [hh]; exact post2)
        | (simp only [hh]; exact post2)
  · exact post1.elim
end
end DI
set_option maxHeartbeats 2000000
/-! # DI: x[::-1] of lists and tuples -/
namespace DI
open PySem PySem.Spec L2
open PyProof.Rows hiding St
section
variable {prog : Program} {w : World} {A : Around} {E : Value → Shared → Prop} {s : Shared}
theorem adjust_rev (n : Nat) : Builtin.Slice.sliceAdjust none none (-1) (n : Int) = ((n : Int) - 1, -1) := by
  unfold Builtin.Slice.sliceAdjust
  simp
theorem places_rev (n : Nat) : Builtin.Slice.slicePlaces ((n : Int) - 1) (-1) (-1) = n := by
  unfold Builtin.Slice.slicePlaces
  have h1 : ¬ ((-1 : Int) > 0) := by omega
  simp only [h1, if_false]
  have e : ((n : Int) - 1 - -1 - 1) / - -1 = (n : Int) - 1 := by rw [show -(-1 : Int) = 1 by decide, Int.ediv_one]; omega
  split
  · first | omega | (rw [e]; omega)
  · omega
theorem sliceApplied_rev {sl : Addr} {u : Tok} {n : Nat} {Q : Int × Int × Nat → Shared → Prop} (hs : s.heap.IsSliceOf sl .none .none (.int (-1) u))
    (h : Q ((n : Int) - 1, -1, n) s) : wpAny (model prog w) A (Builtin.Slice.sliceApplied (.ref sl) (pure (n : Int))) Q E s := by
  obtain ⟨os, hos, hcs, hds⟩ := id hs
  unfold Builtin.Slice.sliceApplied Builtin.Slice.sliceFields
  refine wpAny_bind (wpAny_bind (wpAny_field hos hds (x := .none) rfl (wpAny_bind (wpAny_field hos hds (x := .none) rfl (wpAny_bind (wpAny_field hos hds (x := .int (-1) u) rfl (wpAny_pure ?_)))))))
  refine wpAny_bind (slicePart_int ?_)
  show wpAny _ _ (if ((-1 : Int) == 0) = true then _ else _) _ _ s
  rw [if_neg (by decide)]
  refine wpAny_bind (slicePart_none (wpAny_bind (slicePart_none (wpAny_bind (wpAny_pure ?_)))))
  show wpAny _ _ (match Builtin.Slice.sliceAdjust none none (-1) (n : Int) with | (lo, hi) => pure (lo, (-1 : Int), Builtin.Slice.slicePlaces lo hi (-1))) _ _ s
  rw [adjust_rev]
  show wpAny _ _ (pure ((n : Int) - 1, (-1 : Int), Builtin.Slice.slicePlaces ((n : Int) - 1) (-1) (-1))) _ _ s
  rw [places_rev]
  exact wpAny_pure h
theorem pick_rev (xs : Array Value) : ((List.range xs.size).filterMap fun (m : Nat) => xs[(((xs.size : Int) - 1) + (m : Int) * (-1)).toNat]?).toArray = xs.toList.reverse.toArray := by
  congr 1
  have e : (List.range xs.size).filterMap (fun (m : Nat) => xs[(((xs.size : Int) - 1) + (m : Int) * (-1)).toNat]?) = (List.range xs.size).map (fun m => xs.toList.reverse.getD m .none) := by
    have key : ∀ l : List Nat, (∀ m ∈ l, m < xs.size) → l.filterMap (fun (m : Nat) => xs[(((xs.size : Int) - 1) + (m : Int) * (-1)).toNat]?) = l.map (fun m => xs.toList.reverse.getD m .none) := by
      intro l
      induction l with
      | nil => intro _; rfl
      | cons m l ih =>
        intro hl
        have hm := hl m List.mem_cons_self
        rw [List.filterMap_cons, List.map_cons, ← ih fun z hz => hl z (List.mem_cons_of_mem _ hz)]
        have h1 : (((xs.size : Int) - 1) + (m : Int) * (-1)).toNat = xs.size - 1 - m := by omega
        have h2 : m < xs.toList.reverse.length := by simpa using hm
        rw [h1, Array.getElem?_eq_getElem (by omega)]
        simp only
        congr 1
        rw [List.getD_eq_getElem?_getD, List.getElem?_eq_getElem h2, List.getElem_reverse]
        simp
    exact key _ fun m hm => List.mem_range.mp hm
  rw [e]
  apply List.ext_getElem
  · simp
  · intro i h1 h2
    rw [List.getElem_map, List.getElem_range, List.getD_eq_getElem?_getD, List.getElem?_eq_getElem h2]
    rfl
theorem getItem_tuple_rev {t sl : Addr} {items : Array Value} {u : Tok} {Q : Value → Shared → Prop} (ht : PyProof.Rows.IsTup s.heap t items) (hs : s.heap.IsSliceOf sl .none .none (.int (-1) u))
    (h : Q (.ref s.heap.objs.size) { s with heap := s.heap.push { cls := .type "tuple", data := .seq items.toList.reverse.toArray } })
    (hsz : items.size ≤ sizeLine) : wpAny (model prog w) A (getItem (.ref t) (.ref sl)) Q E s := by
  have htake : sizeOk (.seq items.toList.reverse.toArray) := by
    show (items.toList.reverse.toArray).size ≤ sizeLine
    rw [List.size_toArray, List.length_reverse, Array.length_toList]
    omega
  obtain ⟨os, hos, hcs, hds⟩ := id hs
  have hTs : s.TypeIs (.ref sl) "slice" := ⟨os, hos, hcs⟩
  unfold getItem
  try with_reducible refine wpAny_holding ?_
  first | refine wpAny_bind (wpAny_pure ?_) | skip
  refine wpAny_bind (wpAny_sequenceKey ht.typeIs (by decide) ?_)
  refine wpAny_bind (wpAny_callSpecial?_slot (name := Str.ofString "__getitem__") ht.typeIs PyProof.Rows.slot_tuple_getitem
    (wpAny_call_entry PyProof.Rows.slot_tuple_getitem ht.typeIs PyProof.Rows.entry_tuple_getitem ?_ (PyProof.Rows.args_tuple_getitem _ _)))
  show wpAny _ _ (Builtin.Tuple.tupleItemsOf (.ref t) >>= _) _ _ s
  refine wpAny_bind (PyProof.Rows.tupleItemsOf_ ht ?_)
  refine wpAny_bind (wpAny_typeOf hTs ?_)
  rw [if_pos (by decide)]
  refine wpAny_bind (sliceApplied_rev hs ?_)
  have hno : ¬ (((((items.size : Int) - 1) == 0) && ((-1 : Int) == 1) && (items.size == items.size)) = true) := by
    intro q
    rw [Bool.and_eq_true, Bool.and_eq_true] at q
    have q1 : (-1 : Int) = 1 := eq_of_beq q.1.2
    omega
  show wpAny _ _ (if ((((items.size : Int) - 1) == 0) && ((-1 : Int) == 1) && (items.size == items.size)) = true then _ else _) _ _ s
  rw [if_neg hno, pick_rev]
  first
    | exact wpAny_bind (m := Builtin.Tuple.tupleExact _) (wpAny_newObj_type (wpAny_pure ⟨_, rfl, wpAny_pure h⟩) htake)
    | exact wpAny_bind (m := Builtin.Tuple.tupleExact _) (wpAny_newObj_type (wpAny_bind (wpAny_pure (wpAny_pure ⟨_, rfl, wpAny_pure h⟩))) htake)
    | exact wpAny_bind (wpAny_bind (m := Builtin.Tuple.tupleExact _) (wpAny_newObj_type (wpAny_pure (wpAny_pure ⟨_, rfl, wpAny_pure h⟩)) htake))
    | exact wpAny_bind (wpAny_bind (m := Builtin.Tuple.tupleExact _) (wpAny_newObj_type (wpAny_pure ⟨_, rfl, wpAny_pure h⟩) htake))
end
section
variable {X : Cx}
/-- x[::-1] -/
def tRevA (K : PySem.W.Frag) (te : TE) : TE := fun σ H Q => te σ H fun x H1 => ∃ a xs, x = .ref a ∧ ((SqL K H1 a xs ∧ ∀ p, H1 p = none → Q (.ref p) (upd H1 p (.lst xs.reverse))) ∨ (SqT K H1 a xs ∧ ∀ p, H1 p = none → Q (.ref p) (upd H1 p (.tup xs.reverse))))
theorem pe_revA {e : PySem.Expr} {te : TE} {k : Nat} {p1 p2 p3 pos : Pos} (he : PE X e te) : PE X (.Subscript e (.Slice none none (some (.UnaryOp .USub (.Constant (.int 1) k p1) p2)) p3) pos) (tRevA X.K te) := by
  refine ⟨fun pins s σ H Q I h => ?_⟩
  refine Subscript_ (thn (he.run pins s σ H _ I h) fun v s1 ⟨x, H1, I1, r1, q1⟩ => ?_)
  obtain ⟨a, xs, ex, q⟩ := q1
  subst ex
  cases r1
  have hst : PO X (some (.UnaryOp .USub (.Constant (.int 1) k p1) p2)) (tPart (tUn (rU fun i => .int (-i)) (tC (.int 1)))) := po_some (pe_un un_neg pe_int)
  refine wpAny_Slice (thn (po_none.run pins s1 σ H1 (fun o H2 => o = none ∧ H2 = H1) I1 ⟨rfl, rfl⟩) fun vl s2 ⟨l, H2, I2, pl, el, e2⟩ => ?_)
  subst el e2
  refine thn (po_none.run pins s2 σ H2 (fun o H3 => o = none ∧ H3 = H2) I2 ⟨rfl, rfl⟩) fun vu s3 ⟨u, H3, I3, pu, eu, e3⟩ => ?_
  subst eu e3
  refine thn (hst.run pins s3 σ H3 (fun o H4 => o = some (-1) ∧ H4 = H3) I3 ⟨1, rfl, -1, rfl, rfl, rfl⟩) fun vs s4 ⟨o, H4, I4, ps, eo, e4⟩ => ?_
  subst eo e4
  have I5 : Inv X pins σ H4 { s4 with heap := s4.heap.push { cls := .type "slice", data := .fields #[vl, vu, vs] } } := I4.kept (t' := s4.toks) fun b ob q => Heap.get?_push_of_some _ q
  show wpAny (model X.prog X.w) X.A (subscriptTail e (.Slice none none (some (.UnaryOp .USub (.Constant (.int 1) k p1) p2)) p3) (.ref a) (.ref s4.heap.objs.size)) (EP X pins σ Q) X.xe { s4 with heap := s4.heap.push { cls := .type "slice", data := .fields #[vl, vu, vs] } }
  rcases q with ⟨hx, q⟩ | ⟨hx, q⟩
  · obtain ⟨its, r, ht, hz⟩ := I5.list hx
    have hlen := r.length
    refine tail_any (ops := [.ref a, .ref s4.heap.objs.size]) ht.isList.typeIs (PySem.slot_list_getitem.lookup) ?_ (by with_unfolding_all rfl)
    refine wpAny_getItem_list_slice ht.isList (Heap.IsSliceOf.new _ vl vu vs) pl pu ps (by decide) ?_ (by rw [List.size_toArray]; omega)
    rw [PySem.W.krv_pick]
    refine ⟨.ref _, _, I5.laid (t' := s4.toks) (o := .lst xs.reverse) (fun b ob q => Heap.get?_push_of_some _ q) (Nat.le_refl _) ?_, rfl, q _ (I5.hok.fresh (Nat.le_refl _))⟩
    exact ⟨by rw [List.length_reverse]; exact hz, _, 0, r.reverse, Heap.get?_push_size _ rfl⟩
  · obtain ⟨its, r, ht, hz⟩ := I5.tuple hx
    have hlen := r.length
    cases pl
    cases pu
    cases ps with
    | int _ t =>
      refine tail_any (ops := [.ref a, .ref s4.heap.objs.size]) ht.typeIs (PyProof.Rows.slot_tuple_getitem.lookup) ?_ (by with_unfolding_all rfl)
      refine getItem_tuple_rev ht (Heap.IsSliceOf.new _ .none .none (.int (-1) t)) ?_ (by rw [List.size_toArray]; omega)
      refine ⟨.ref _, _, I5.laid (t' := s4.toks) (o := .tup xs.reverse) (fun b ob q => Heap.get?_push_of_some _ q) (Nat.le_refl _) ?_, rfl, q _ (I5.hok.fresh (Nat.le_refl _))⟩
      exact ⟨by rw [List.length_reverse]; exact hz, _, r.reverse, ⟨_, Heap.get?_push_size _ rfl, rfl, _, rfl⟩⟩
end
end DI
set_option maxHeartbeats 4000000
/-! # DI: sorted(set(..)) of tuples of ints -/
namespace DI
open PySem PySem.Spec L2

/-! ### sorted lists -/
theorem strict_eq {α : Type} (f : α → Int) : ∀ {l m : List α}, l.Pairwise (fun x y => f x < f y) → m.Pairwise (fun x y => f x < f y) → (∀ x, x ∈ l ↔ x ∈ m) → l = m
  | [], m, _, _, h => by
    cases m with
    | nil => rfl
    | cons b m => exact absurd ((h b).mpr List.mem_cons_self) (by simp)
  | a :: l, [], _, _, h => absurd ((h a).mp List.mem_cons_self) (by simp)
  | a :: l, b :: m, hl, hm, h => by
    rw [List.pairwise_cons] at hl hm
    have e : a = b := by
      rcases List.mem_cons.mp ((h a).mp List.mem_cons_self) with e | e
      · exact e
      · rcases List.mem_cons.mp ((h b).mpr List.mem_cons_self) with e2 | e2
        · exact e2.symm
        · have h1 := hm.1 a e
          have h2 := hl.1 b e2
          omega
    subst e
    congr 1
    refine strict_eq f hl.2 hm.2 fun x => ⟨fun hx => ?_, fun hx => ?_⟩
    · rcases List.mem_cons.mp ((h x).mp (List.mem_cons_of_mem _ hx)) with e | e
      · have := hl.1 x hx
        subst e
        omega
      · exact e
    · rcases List.mem_cons.mp ((h x).mpr (List.mem_cons_of_mem _ hx)) with e | e
      · have := hm.1 x hx
        subst e
        omega
      · exact e
theorem mem_insT {B : Int} {x : List Int} : ∀ {l : List (List Int)} {y : List Int}, y ∈ insT B x l → y = x ∨ y ∈ l
  | [], y, h => by
    simp only [insT, List.mem_singleton] at h
    exact .inl h
  | z :: l, y, h => by
    unfold insT at h
    split at h
    · rcases List.mem_cons.mp h with h | h
      · exact .inl h
      · exact .inr h
    · split at h
      · exact .inr h
      · rcases List.mem_cons.mp h with h | h
        · exact .inr (h ▸ List.mem_cons_self)
        · exact (mem_insT h).imp id (List.mem_cons_of_mem _)
theorem insT_of {B : Int} {x : List Int} : ∀ {l : List (List Int)} {y : List Int}, y ∈ l → y ∈ insT B x l
  | z :: l, y, h => by
    unfold insT
    split
    · exact List.mem_cons_of_mem _ h
    · split
      · exact h
      · rcases List.mem_cons.mp h with h | h
        · exact h ▸ List.mem_cons_self
        · exact List.mem_cons_of_mem _ (insT_of h)
theorem insT_self {B : Int} {x : List Int} : ∀ {l : List (List Int)}, (∀ y ∈ l, codeI B x = codeI B y → x = y) → x ∈ insT B x l
  | [], _ => by simp [insT]
  | z :: l, inj => by
    unfold insT
    split
    · exact List.mem_cons_self
    · split
      · rename_i e
        exact inj z List.mem_cons_self e ▸ List.mem_cons_self
      · exact List.mem_cons_of_mem _ (insT_self fun y hy => inj y (List.mem_cons_of_mem _ hy))
theorem insT_sorted {B : Int} {x : List Int} : ∀ {l : List (List Int)}, l.Pairwise (fun x y => codeI B x < codeI B y) → (insT B x l).Pairwise (fun x y => codeI B x < codeI B y)
  | [], _ => by simp [insT]
  | z :: l, h => by
    rw [List.pairwise_cons] at h
    unfold insT
    split
    · rename_i hlt
      refine List.pairwise_cons.mpr ⟨fun y hy => ?_, List.pairwise_cons.mpr h⟩
      rcases List.mem_cons.mp hy with e | e
      · subst e; exact hlt
      · have := h.1 y e
        omega
    · split
      · exact List.pairwise_cons.mpr h
      · refine List.pairwise_cons.mpr ⟨fun y hy => ?_, insT_sorted h.2⟩
        rcases mem_insT hy with e | e
        · subst e; omega
        · exact h.1 y e
theorem sortT_sorted {B : Int} : ∀ l : List (List Int), (sortT B l).Pairwise (fun x y => codeI B x < codeI B y)
  | [] => .nil
  | x :: l => insT_sorted (sortT_sorted l)
theorem mem_sortT {B : Int} : ∀ {l : List (List Int)} {x : List Int}, x ∈ sortT B l → x ∈ l
  | _ :: _, _, h => (mem_insT h).elim (fun e => e ▸ List.mem_cons_self) fun h => List.mem_cons_of_mem _ (mem_sortT h)
theorem sortT_of {B : Int} : ∀ {l : List (List Int)}, (∀ x ∈ l, ∀ y ∈ l, codeI B x = codeI B y → x = y) → ∀ x ∈ l, x ∈ sortT B l
  | z :: l, inj, x, h => by
    unfold sortT
    rcases List.mem_cons.mp h with e | e
    · subst e
      exact insT_self fun y hy => inj x List.mem_cons_self y (List.mem_cons_of_mem _ (mem_sortT hy))
    · exact insT_of (sortT_of (fun x hx y hy => inj x (List.mem_cons_of_mem _ hx) y (List.mem_cons_of_mem _ hy)) x e)
theorem code_inj {B : Int} : ∀ {k m : List Int}, k.length = m.length → TS.Bd B k → TS.Bd B m → TS.code B k = TS.code B m → k = m
  | [], [], _, _, _, _ => rfl
  | d :: r, e :: q, hl, h1, h2, h => by
    have hl' : r.length = q.length := by simpa using hl
    rcases Int.lt_trichotomy d e with z | z | z
    · have := TS.code_lt hl' h1.tail h2.tail z
      omega
    · subst z
      have hh : TS.code B r = TS.code B q := by
        have h' : d * B ^ r.length + TS.code B r = d * B ^ q.length + TS.code B q := h
        rw [hl'] at h'
        omega
      rw [code_inj hl' h1.tail h2.tail hh]
    · have := TS.code_lt hl'.symm h2.tail h1.tail z
      omega
theorem bdB_ok {B : Int} {d : Nat} {k : List Int} (h : bdB B d k = true) : k.length = d ∧ TS.Bd B k := by
  unfold bdB at h
  simp only [Bool.and_eq_true, decide_eq_true_eq, List.all_eq_true] at h
  exact ⟨h.1, fun i hi => h.2 i hi⟩
/-- L' is the sorted list -/
theorem sortT_eq {B : Int} {d : Nat} {ks : List (List Int)} {L : List (Addr × List Int)} (hk : ∀ k ∈ ks, k.length = d ∧ TS.Bd B k) (h1 : ∀ q ∈ L, q.2 ∈ ks) (h2 : ∀ k ∈ ks, k ∈ L.map (·.2)) (nd : (L.map (·.2)).Nodup)
    (pw : L.Pairwise (fun q r => TS.code B q.2 ≤ TS.code B r.2)) : L.map (·.2) = sortT B ks := by
  have inj : ∀ x ∈ ks, ∀ y ∈ ks, codeI B x = codeI B y → x = y := fun x hx y hy e => code_inj ((hk x hx).1.trans (hk y hy).1.symm) (hk x hx).2 (hk y hy).2 e
  have hL : ∀ k ∈ L.map (·.2), k ∈ ks := fun k hm => by
    obtain ⟨q, hq, rfl⟩ := List.mem_map.mp hm
    exact h1 q hq
  refine strict_eq (codeI B) ?_ (sortT_sorted ks) fun x => ⟨fun hx => sortT_of inj x (hL x hx), fun hx => h2 x (mem_sortT hx)⟩
  have pw' : (L.map (·.2)).Pairwise (fun x y => TS.code B x ≤ TS.code B y) := List.pairwise_map.mpr pw
  have key : ∀ {m : List (List Int)}, (∀ k ∈ m, k ∈ ks) → m.Nodup → m.Pairwise (fun x y => TS.code B x ≤ TS.code B y) → m.Pairwise (fun x y => codeI B x < codeI B y) := fun {m} hm => by
    induction m with
    | nil => exact fun _ _ => .nil
    | cons a m ih =>
      intro nd pw
      rw [List.nodup_cons] at nd
      rw [List.pairwise_cons] at pw
      refine List.pairwise_cons.mpr ⟨fun y hy => ?_, ih (fun k hk => hm k (List.mem_cons_of_mem _ hk)) nd.2 pw.2⟩
      have h3 : codeI B a ≤ codeI B y := pw.1 y hy
      have h4 : codeI B a ≠ codeI B y := fun e => nd.1 (inj a (hm a List.mem_cons_self) y (hm y (List.mem_cons_of_mem _ hy)) e ▸ hy)
      omega
  exact key hL nd pw'
section
variable {G : Gd} {M : Store} {ι : List Addr} {H : Hp}
/-- the tuples of a list, by their places -/
theorem Rps.tups : ∀ {xs : List PV} {vs : List V} {ks : List (List Int)}, Rps G ι H (Own M ι) xs vs → intTups xs = some ks → ∃ ls : List (Addr × List Int), vs = ls.map (fun q => V.ref q.1) ∧ ls.map (·.2) = ks ∧ ∀ q ∈ ls, FxT G.K (Own M ι) H q.1 (q.2.map V.int) ∧ q.2.length ≤ sizeLine
  | _, _, ks, .nil, e => by
    simp only [intTups] at e
    cases e
    exact ⟨[], rfl, rfl, nofun⟩
  | _, _, ks, .cons (p := p) r t, e => by
    cases p with
    | tup ps =>
      simp only [intTups] at e
      cases e1 : DI.intsOf ps with
      | none => rw [e1] at e; cases e
      | some k =>
        cases e2 : intTups _ with
        | none => rw [e1, e2] at e; cases e
        | some ks' =>
          rw [e1, e2] at e
          cases e
          obtain ⟨ls, h1, h2, h3⟩ := t.tups e2
          cases r with
          | tup k1 k2 k3 =>
            rename_i a vs'
            have hv := k3.intsOf e1
            subst hv
            have hl := k3.length
            simp only [List.length_map] at hl
            refine ⟨(a, k) :: ls, by rw [h1]; rfl, by simp [h2], fun q hq => ?_⟩
            rcases List.mem_cons.mp hq with e | e
            · subst e
              exact ⟨k1, by show k.length ≤ sizeLine; omega⟩
            · exact h3 q e
    | _ => simp [intTups] at e
theorem Rps.ofTups (e0 : ∀ q : Addr × List Int, q ∈ ([] : List (Addr × List Int)) → False) : ∀ {L : List (Addr × List Int)}, (∀ q ∈ L, FxT G.K (Own M ι) H q.1 (q.2.map V.int) ∧ q.2.length ≤ sizeLine) → Rps G ι H (Own M ι) ((L.map (·.2)).map fun k => .tup (k.map .int)) (L.map fun q => V.ref q.1)
  | [], _ => .nil
  | q :: L, h => .cons (.tup (h q List.mem_cons_self).1 (by simpa using (h q List.mem_cons_self).2) (Rps.ints q.2)) (Rps.ofTups e0 fun q hq => h q (List.mem_cons_of_mem _ hq))
end
section
variable {G : Gd} {W : WX} {X : Cx} {pos p p2 pos2 : Pos} {z : PySem.Expr} {cz : Ev PV}
theorem boot_sorted' : bootBuiltins "sorted" = some (.builtin "sorted") := by decide +kernel
theorem boot_set' : bootBuiltins "set" = some (.type "set") := by decide +kernel
theorem se_sset (hK : X.K = G.K) (hc : X.calm = true) (hu : X.A.units + 66 < cLine) (hg : Gl X "sorted") (hm : X.mg "sorted" = none) (hg2 : Gl X "set") (hm2 : X.mg "set" = none) (hn : notStar z = true) (ha : PE X z (LE G W cz)) :
    PE X (.Call (.Name "sorted" p) [.Call (.Name "set" p2) [z] [] pos2] [] pos) (LE G W fun sp M => (cz sp M).bind fun p M1 => .ofO (ssetP M1 p) M1) := by
  refine (pe_callB (cr_sortedT hc) hg hm boot_sorted' (pa_cons (pe_callTy (cr_setOfT hc (by omega)) hg2 hm2 boot_set' (sa1 hn ha) (by decide) (by decide) (by rw [star_cons hn]) rfl) pa_nil (star_cons (e := .Call (.Name "set" p2) [z] [] pos2) rfl)) (by decide) (by decide) (star_cons (e := .Call (.Name "set" p2) [z] [] pos2) rfl) rfl).w fun σ H Q h => ?_
  obtain ⟨M, ι, sp, m, s, post⟩ := h
  refine ⟨M, ι, sp, m, s, PostA.bind (Q := Q) (k := fun ps M1 => match ps with
    | [p] => .ofO (ssetP M1 p) M1
    | _ => .bad) ?_ fun ps M1 ι1 H1 vs m1 e1 r1 post1 => ?_⟩
  · dsimp only at post ⊢
    rw [bind_assoc]
    exact post
  split at post1
  case h_2 => exact post1.elim
  obtain ⟨v, rfl, rp⟩ := r1.one
  rename_i p0
  cases er : ssetP M1 p0 with
  | none => rw [er] at post1; exact post1.elim
  | some r =>
  rw [er] at post1
  unfold ssetP at er
  split at er
  case h_2 => cases er
  rename_i xs hx
  split at er
  case h_2 => cases er
  rename_i ks hks
  dsimp only at er
  split at er
  case isFalse => cases er
  rename_i hh
  cases er
  simp only [Bool.and_eq_true, decide_eq_true_eq, List.all_eq_true] at hh
  obtain ⟨⟨hd, hlen⟩, hB⟩ := hh
  obtain ⟨a, ws, rfl, h3, h4, h5⟩ := m1.itemsL hx rp
  obtain ⟨ls, rfl, hls, hf⟩ := h5.tups hks
  subst hls
  have hall : ∀ k ∈ ls.map (·.2), k.length = ((ls.map (·.2)).headD [0]).length ∧ TS.Bd srtB k := fun k hk => bdB_ok (hB k hk)
  refine ⟨a, ls, rfl, SqL.of h3, fun q hq => hK ▸ (hf q hq).1.sq, by simpa using hlen, fun b L hb hL1 hL2 => ?_⟩
  have mn := m1.new (o := SetTO X.prog X.w b L) hb
  have en := Ext.new (M := M1) (ι := ι1) (o := SetTO X.prog X.w b L) hb
  refine ⟨b, L, ((ls.map (·.2)).headD [0]).length, srtB, rfl, upd_same, fun q hq => hK ▸ (en.fxT (hf q (hL1 q hq)).1).sq, hd, fun q hq => hall _ (List.mem_map.mpr ⟨q, hL1 q hq, rfl⟩), fun L' pp perm nd hl' pw hp => ?_⟩
  have hL' : ∀ q ∈ L', q ∈ ls := fun q hq => hL1 q (perm.mem_iff.mp hq)
  have heq := sortT_eq (B := srtB) (ks := ls.map (·.2)) (L := L') hall (fun q hq => List.mem_map.mpr ⟨q, hL' q hq, rfl⟩) (fun k hk => by
    obtain ⟨q, hq, rfl⟩ := List.mem_map.mp hk
    obtain ⟨q', hq', e⟩ := List.mem_map.mp (hL2 q hq)
    exact List.mem_map.mpr ⟨q', perm.mem_iff.mpr hq', e⟩) nd pw
  rw [← heq] at post1
  have rr : Rps G ι1 (upd H1 b (SetTO X.prog X.w b L)) (Own M1 ι1) ((L'.map (·.2)).map fun k => .tup (k.map .int)) (L'.map fun q => V.ref q.1) := (Rps.ofTups (fun q h => by simp at h) fun q hq => hf q (hL' q hq)).ext en
  have hz : ((L'.map (·.2)).map fun k => PV.tup (k.map .int)).length ≤ sizeLine := by
    simp only [List.length_map]
    have : 64 ≤ sizeLine := by decide
    omega
  exact post1 ι1 _ _ (mn.new hp) (en.trans (Ext.new hp)) (mn.newRl hp hz rr)
theorem isrt_eq {B : Int} {d : Nat} {ks ms : List (List Int)} (hk : ∀ k ∈ ks, k.length = d ∧ TS.Bd B k) (hp : ms.Perm ks) (pw : ms.Pairwise fun x y => TS.code B x ≤ TS.code B y) : ms = isrt B ks := by
  have hp2 : (isrt B ks).Perm ks := List.mergeSort_perm _ _
  have pw2 : (isrt B ks).Pairwise fun x y => TS.code B x ≤ TS.code B y := (List.pairwise_mergeSort (le := fun x y => decide (codeI B x ≤ codeI B y)) (fun a b c h1 h2 => by simp only [decide_eq_true_eq] at *; omega) (fun a b => by simp only [Bool.or_eq_true, decide_eq_true_eq]; omega) ks).imp fun h => of_decide_eq_true h
  refine List.Perm.eq_of_pairwise (fun a b ha hb h1 h2 => ?_) pw pw2 (hp.trans hp2.symm)
  have ka := hk a (hp.mem_iff.mp ha)
  have kb := hk b (hp2.mem_iff.mp hb)
  exact code_inj (ka.1.trans kb.1.symm) ka.2 kb.2 (Int.le_antisymm h1 h2)
theorem perm_map {α β : Type} (f : α → β) : ∀ {l : List α} {ys : List β}, ys.Perm (l.map f) → ∃ l' : List α, l'.Perm l ∧ ys = l'.map f := by
  intro l ys h
  generalize hm : l.map f = m at h
  induction h generalizing l with
  | nil => exact ⟨[], by cases l <;> simp_all, rfl⟩
  | cons x p ih =>
    cases l with
    | nil => cases hm
    | cons a l =>
      simp only [List.map_cons, List.cons.injEq] at hm
      obtain ⟨l', h1, h2⟩ := ih hm.2
      exact ⟨a :: l', .cons a h1, by rw [List.map_cons, hm.1, h2]⟩
  | swap x y l0 =>
    cases l with
    | nil => cases hm
    | cons a l =>
      cases l with
      | nil => simp at hm
      | cons b l =>
        simp only [List.map_cons, List.cons.injEq] at hm
        exact ⟨b :: a :: l, .swap _ _ _, by simp [hm.1, hm.2.1, hm.2.2]⟩
  | trans p q ih1 ih2 =>
    obtain ⟨l2, h3, h4⟩ := ih2 hm
    obtain ⟨l1, h1, h2⟩ := ih1 h4.symm
    exact ⟨l1, h1.trans h3, h2⟩
theorem cr_sortD {X : Cx} {B : Int} : CallR X (.builtin "sorted") fun vs H Q => ∃ d, 1 ≤ d ∧ rSortU X.K d B vs H Q := fun pins s σ H vs us Q I r h => by
  obtain ⟨d, hd, h⟩ := h
  exact cr_sortT hd pins s σ H vs us Q I r h
theorem se_srt (hK : X.K = G.K) (hg : Gl X "sorted") (hm : X.mg "sorted" = none) (hn : notStar z = true) (ha : PE X z (LE G W cz)) :
    PE X (.Call (.Name "sorted" p) [z] [] pos) (LE G W fun sp M => (cz sp M).bind fun p M1 => .ofO (srtP M1 p) M1) := by
  refine (pe_callB (cr_sortD (B := srtB)) hg hm boot_sorted' (sa1 hn ha) (by decide) (by decide) (by rw [star_cons hn]) rfl).w fun σ H Q h => ?_
  obtain ⟨M, ι, sp, m, s, post⟩ := h
  refine ⟨M, ι, sp, m, s, PostA.bind (Q := Q) (k := fun ps M1 => match ps with
    | [p] => .ofO (srtP M1 p) M1
    | _ => .bad) ?_ fun ps M1 ι1 H1 vs m1 e1 r1 post1 => ?_⟩
  · dsimp only at post ⊢
    rw [bind_assoc]
    exact post
  split at post1
  case h_2 => exact post1.elim
  obtain ⟨v, rfl, rp⟩ := r1.one
  rename_i p0
  cases er : srtP M1 p0 with
  | none => rw [er] at post1; exact post1.elim
  | some r =>
  rw [er] at post1
  unfold srtP at er
  split at er
  case h_2 => cases er
  rename_i xs hx
  split at er
  case h_2 => cases er
  rename_i ks hks
  dsimp only at er
  split at er
  case isFalse => cases er
  rename_i hh
  cases er
  simp only [Bool.and_eq_true, decide_eq_true_eq, List.all_eq_true] at hh
  obtain ⟨⟨hd, hlen⟩, hB⟩ := hh
  obtain ⟨a, ws, rfl, h3, h4, h5⟩ := m1.itemsL hx rp
  obtain ⟨ls, rfl, hls, hf⟩ := h5.tups hks
  subst hls
  have hall : ∀ k ∈ ls.map (·.2), k.length = ((ls.map (·.2)).headD [0]).length ∧ TS.Bd srtB k := fun k hk => bdB_ok (hB k hk)
  refine ⟨_, hd, a, ls.map fun q => V.ref q.1, rfl, SqL.of h3, by simpa using hlen, fun x hx => ?_, fun ys b hys pw hb => ?_⟩
  · obtain ⟨q, hq, rfl⟩ := List.mem_map.mp hx
    exact ⟨q.2, ⟨q.1, rfl, hK ▸ (hf q hq).1.sq⟩, hall _ (List.mem_map.mpr ⟨q, hq, rfl⟩)⟩
  · obtain ⟨L', hp, rfl⟩ := perm_map (fun q : Addr × List Int => V.ref q.1) hys
    have hL' : ∀ q ∈ L', q ∈ ls := fun q hq => hp.mem_iff.mp hq
    have heq := isrt_eq (B := srtB) (ks := ls.map (·.2)) (ms := L'.map (·.2)) hall (hp.map _) (by
      rw [List.pairwise_map] at pw ⊢
      refine List.Pairwise.imp_of_mem (fun {x y} hx hy h => ?_) pw
      exact h _ _ ⟨x.1, rfl, hK ▸ (hf x (hL' x hx)).1.sq⟩ ⟨y.1, rfl, hK ▸ (hf y (hL' y hy)).1.sq⟩)
    rw [← heq] at post1
    have rr : Rps G ι1 H1 (Own M1 ι1) ((L'.map (·.2)).map fun k => .tup (k.map .int)) (L'.map fun q => V.ref q.1) := Rps.ofTups (fun q h => by simp at h) fun q hq => hf q (hL' q hq)
    have hz : ((L'.map (·.2)).map fun k => PV.tup (k.map .int)).length ≤ sizeLine := by
      have hl := hp.length_eq
      simp only [List.length_map] at hlen ⊢
      have : 64 ≤ sizeLine := by decide
      omega
    exact post1 ι1 _ _ (m1.new hb) (Ext.new hb) (m1.newRl hb hz rr)
theorem Rps.rev {G : Gd} {ι : List Addr} {H : Hp} {O : Addr → Prop} : ∀ {ps : List PV} {vs : List V}, Rps G ι H O ps vs → Rps G ι H O ps.reverse vs.reverse
  | _, _, .nil => .nil
  | _, _, .cons r t => by
    rw [List.reverse_cons, List.reverse_cons]
    exact t.rev.append (.cons r .nil)
theorem se_rev {ca : Ev PV} {a : PySem.Expr} {kk : Nat} {p1 p2 p3 : Pos} (hK : X.K = G.K) (ha : PE X a (LE G W ca)) :
    PE X (.Subscript a (.Slice none none (some (.UnaryOp .USub (.Constant (.int 1) kk p1) p2)) p3) pos) (LE G W fun sp M => (ca sp M).bind fun q M1 => .ofO (revP M1 q) M1) := by
  refine (pe_revA ha).w fun σ H Q h => ?_
  obtain ⟨M, ι, sp, m, s, post⟩ := h
  refine ⟨M, ι, sp, m, s, post.bind fun v M1 ι1 H1 u m1 e1 r1 post1 => ?_⟩
  by_cases ht : ∃ xs, v = .tup xs
  · obtain ⟨xs, rfl⟩ := ht
    cases r1 with
    | tup h1 h2 h3 =>
      refine ⟨_, _, rfl, .inr ⟨hK ▸ h1.sq, fun p hp => ?_⟩⟩
      exact post1 ι1 _ _ (m1.new hp) (Ext.new hp) (m1.newRp hp (by rw [List.length_reverse]; exact h2) h3.rev)
  · have e : revP M1 v = (itemsL M1 v).map fun xs => .lst xs.reverse := by
      unfold revP
      split
      · exact absurd ⟨_, rfl⟩ ht
      · rfl
    rw [e] at post1
    cases hx : DI.itemsL M1 v with
    | none => rw [hx] at post1; exact post1.elim
    | some xs =>
      rw [hx] at post1
      obtain ⟨b, vs, rfl, h3, h4, h5⟩ := m1.itemsL hx r1
      refine ⟨_, _, rfl, .inl ⟨SqL.of h3, fun p hp => ?_⟩⟩
      exact post1 ι1 _ _ (m1.new hp) (Ext.new hp) (m1.newRl hp (by rw [List.length_reverse]; exact h4) h5.rev)
theorem flat_ints : ∀ ns : List Int, (ns.map V.int).all flatV = true
  | [] => rfl
  | n :: ns => by
    rw [List.map_cons, List.all_cons, flat_ints ns]
    rfl
theorem lm_index {M : Store} {ι : List Addr} {H : Hp} {Q : VK} {p q : PV} {x v : V} (hK : X.K = G.K) (m : MRel G M ι H) (r : Rp G ι H (Own M ι) p x) (rq : Rp G ι H (Own M ι) q v) (h : PostE G W σ M ι H Q (.ofO (indexP M p q) M)) : rIndex X.K x [v] H Q := by
  unfold indexP at h
  split at h
  case h_2 => exact h.elim
  rename_i i
  cases rq
  split at h
  case h_2 => exact h.elim
  rename_i xs hx
  split at h
  case h_2 => exact h.elim
  rename_i ns hn
  obtain ⟨a, vs, rfl, h3, h4, h5⟩ := m.itemsL hx r
  have hv := h5.intsOf hn
  subst hv
  cases hf : ns.findIdx? fun x => x == i with
  | none => rw [hf] at h; exact h.elim
  | some j =>
    rw [hf] at h
    obtain ⟨hj, h6, h7⟩ := List.findIdx?_eq_some_iff_getElem.mp hf
    refine ⟨a, _, .int i, j, .int ns[j], rfl, rfl, SqL.of h3, rfl, flat_ints ns, ?_, ?_, fun m' z hm hz => ?_, ?_⟩
    · rw [List.getElem?_map, List.getElem?_eq_getElem hj]; rfl
    · exact h6
    · rw [List.getElem?_map, List.getElem?_eq_getElem (by omega)] at hz
      cases hz
      have := h7 m' hm
      simpa [eqV] using this
    · exact h ι H _ m .refl (.int _)
theorem se_index {co cx : Ev PV} {o e : PySem.Expr} {apos cpos : Pos} (hK : X.K = G.K) (hn : notCall o = true) (hns : notStar e = true) (hline : (apos.endLine == cpos.line) = true) (ho : PE X o (LE G W co)) (hx : PE X e (LE G W cx)) :
    PE X (.Call (.Attribute o "index" apos) [e] [] cpos) (LE G W fun sp M => (co sp M).bind fun p M1 => if (DI.itemsL M1 p).isSome = true then (cx sp M1).bind fun q M2 => .ofO (indexP M2 p q) M2 else .bad) := by
  refine (pe_bm PySem.F.plainAttrs_list PySem.F.slot_list_index PySem.F.type_list_index mt_index ho (sa1 hns hx) (base_of hn) (bm_all (by simpa using hns) (by decide)) hline (star_cons hns) rfl).w fun σ H Q h => ?_
  obtain ⟨M, ι, sp, m, s, post⟩ := h
  refine ⟨M, ι, sp, m, s, post.bind fun p M1 ι1 H1 v m1 e1 r1 post1 => ?_⟩
  split at post1
  · rename_i ht
    obtain ⟨xs, hi⟩ := Option.isSome_iff_exists.mp ht
    obtain ⟨a, vs, rfl, h3, h4, h5⟩ := m1.itemsL hi r1
    refine ⟨.inl ⟨rfl, vs, SqL.of h3⟩, M1, ι1, sp, m1, s.ext e1, PostA.bind (Q := Q) (k := fun ps M2 => match ps with
      | [q] => .ofO (indexP M2 p q) M2
      | _ => .bad) ?_ fun ps M2 ι2 H2 vs m2 e2 r2 post2 => ?_⟩
    · dsimp only at post1 ⊢
      rw [bind_assoc]
      exact post1
    · split at post2
      case h_2 => exact post2.elim
      obtain ⟨v, rfl, rq⟩ := r2.one
      exact lm_index hK m2 (r1.ext e2) rq post2
  · exact post1.elim
end
end DI
set_option maxHeartbeats 2000000
/-! # DI: instances of own classes: fields read, made, their methods called; methods of lists -/
namespace DI
open PySem PySem.Spec L2
theorem fldP_some {T : Tab} {M : Store} {p q : PV} {f : Str} (h : fldP T M p f = some q) :
    ∃ (n c : Nat) (fs : List (Option PV)) (x : Str) (fn : List Str) (i : Nat), p = .ref n ∧ M[n]? = some (some (.ins c fs)) ∧ T.cnm[c]? = some (x, fn) ∧ c ∈ T.own ∧ fn[i]? = some f ∧ fs[i]? = some (some q) := by
  unfold fldP at h
  split at h
  · rename_i n
    split at h
    · rename_i c fs hM
      split at h
      · rename_i x fn hc
        split at h
        · rename_i ho
          split at h
          · rename_i i hi
            split at h
            · rename_i q' hq
              cases h
              obtain ⟨h1, h2, _⟩ := List.findIdx?_eq_some_iff_getElem.mp hi
              exact ⟨n, c, fs, x, fn, i, rfl, hM, hc, by simpa using ho, by rw [List.getElem?_eq_getElem h1]; exact congrArg some (of_decide_eq_true h2), hq⟩
            · cases h
          · cases h
        · cases h
      · cases h
    · cases h
  · cases h
section
variable {G : Gd} {W : WX} {X : Cx} {pos : Pos} {e : PySem.Expr} {T : Tab} {ce : Ev PV} {f : Str}
/-- e.f, a field of an instance -/
theorem se_fld (hK : X.K = G.K) (tok : TabOk T G) (hb : attributeBase e f X.env (eval e X.env) = eval e X.env) (he : PE X e (LE G W ce)) :
    PE X (.Attribute e f pos) (LE G W fun sp M => (ce sp M).bind fun p M1 => .ofO (fldP T M1 p f) M1) := by
  refine (pe_fld he hb).w fun σ H Q h => ?_
  obtain ⟨M, ι, sp, m, s, post⟩ := h
  refine ⟨M, ι, sp, m, s, post.bind fun p M1 ι1 H1 v m1 e1 r1 post1 => ?_⟩
  cases hq : fldP T M1 p f with
  | none => rw [hq] at post1; exact post1.elim
  | some q =>
    rw [hq] at post1
    obtain ⟨n, c, fs, x, fn, i, rfl, hM, hc, ho, hf, hfs⟩ := fldP_some hq
    cases r1 with
    | ref hι =>
      obtain ⟨a, ha, hob⟩ := m1.obj n _ hM
      rw [hι] at ha
      cases ha
      obtain ⟨nm, fn', C, dx, fvs, g1, g2, g3, g4, g5, g6, g7⟩ := hob
      have g1' := (tok.cnm c x fn hc).1
      rw [g1] at g1'
      cases g1'
      obtain ⟨hcl, hno, _⟩ := tok.own c ho _ _ C hc g2
      obtain ⟨v, hl, rv⟩ := g7 i f q hf hfs
      exact ⟨_, C, dx, fvs, v, rfl, g3, hK ▸ hcl, hK ▸ hno f (List.mem_of_getElem? hf), hl, post1 ι1 H1 v m1 .refl rv⟩
end
theorem RoomG.make {k : Nat} {A : Around} (r : RoomG k A) (C : Addr) (us : List Value) : RoomF k (A.under (.builtin "type.__call__" ⟨.ref C :: us, []⟩)) := ⟨(r.room.mono (by omega : 4 * k + 3 + 1 ≤ 4 * k + 4)).make C us [], r.g⟩
section
variable {X : Cx} {G : Gd} {W : WX} {Γ : Fns} {pos : Pos}
/-- a class is made: a new instance, then its __init__ -/
theorem run_makeD {pins : List (Addr × Obj)} {σ : St} {H : Hp} {s : Shared} {Q : VK} {k : Nat} {C f : Addr} {sp : Sp} {us : List Value} {vs : List V} (M : Mk X.K C f) (F : FnD X.prog X.w X.K X.mg X.base k f sp) (hr : RoomG k X.A) (tk : Takes X W)
    (I : Inv X pins σ H s) (r : Vals vs us) (h : ∀ x dx, H x = none → H dx = none → dx ≠ x → sp (.ref x :: vs) (upd (upd H dx (.own x)) x (.ins C dx [])) (fun v H2 => v = .non ∧ Q (.ref x) H2) (WEx W σ)) :
    wpAny (model X.prog X.w) X.A (call (.ref C) us) (EP X pins σ Q) X.xe s := by
  have hq := h (s.heap.objs.size + 1) s.heap.objs.size (I.hok.fresh (Nat.le_succ _)) (I.hok.fresh (Nat.le_refl _)) (Nat.ne_of_lt (Nat.lt_succ_self _))
  have I2 := Inv.made (C := C) I
  have r2 : Vals (V.ref (s.heap.objs.size + 1) :: vs) (Value.ref (s.heap.objs.size + 1) :: us) := .cons rfl r
  refine wpAny_call (make_map (f := f) I.kIn M.makes M.init (beq_iff_eq.mp M.fn) (codeAny_mono (F.run _ X.stack _ _ (Value.ref (s.heap.objs.size + 1) :: us) _ _ (WEx W σ) (hr.make C us) (I2.env0.make C us []) r2 hq) fun r s' hq' => ?_))
  cases r with
  | error e =>
    rcases hq' with hq' | hq'
    · exact L2N.passAt tk.n σ pins _ _ e s' I2 hq'
    · exact L2.passAt tk.c σ pins _ _ e s' I2 hq'
  | ok fl =>
    cases fl with
    | ret u =>
      obtain ⟨v, H', I3, rv, ev, q3⟩ := I2.after hq'
      subst ev
      exact ⟨rv, ⟨V.ref (s.heap.objs.size + 1), H', I3, rfl, q3⟩⟩
    | next => exact False.elim hq'
    | brk => exact False.elim hq'
    | cont => exact False.elim hq'
def tNewD (C : Addr) (sp : Sp) (W : WX) (t : TA) : TE := fun σ H Q => t σ H fun vs H1 => ∀ x dx, H1 x = none → H1 dx = none → dx ≠ x → sp (.ref x :: vs) (upd (upd H1 dx (.own x)) x (.ins C dx [])) (fun v H2 => v = .non ∧ Q (.ref x) H2) (WEx W σ)
theorem pe_newD {k : Nat} {C f : Addr} {sp : Sp} {x : Str} {p : Pos} {es : List PySem.Expr} {t : TA} (M : Mk X.K C f) (F : FnD X.prog X.w X.K X.mg X.base k f sp) (hr : RoomG k X.A) (tk : Takes X W) (hg : Gl X x) (hm : X.mg x = some (.ref C)) (ha : PA X es t)
    (hns : es.all notStar = true) (h0 : es = [] → ∀ σ H Q, t σ H Q → Q [] H) (hdb : (x == ("__debug__" : Str)) = false) : PE X (.Call (.Name x p) es [] pos) (tNewD C sp W t) := by
  refine ⟨fun pins s σ H Q I h => ?_⟩
  cases es with
  | nil =>
    refine wpAny_Call_Name_kw (ld_glob I hg hm ?_ hdb)
    refine PySem.W.callWith_K0 I.kIn M.kp ?_
    exact run_makeD M F hr tk I .nil (h0 rfl _ _ _ h)
  | cons e es =>
    rw [List.all_cons, Bool.and_eq_true] at hns
    refine wpAny_Call_Name_kw (ld_glob I hg hm ?_ hdb)
    refine PySem.W.callWith_K (h₀ := X.base) I.ok.mod.kin M.kp (thn (ha.run pos pins s σ H _ I h) fun us s1 ⟨vs, H1, I1, r, q⟩ => ⟨I1.kIn, ?_⟩) (star_cons hns.1) (star_none hns.2)
    exact run_makeD M F hr tk I1 r q
theorem se_newI {k : Nat} {C g : Addr} {c f : Nat} {x : Str} {fn : List Str} {p : Pos} {es : List PySem.Expr} {cr : Ev (List PV)} (Mk0 : Mk X.K C g) (F : FnD X.prog X.w X.K X.mg X.base k g (spD G (Γ f))) (hr : RoomG k X.A) (tk : Takes X W) (hg : Gl X x) (hm : X.mg x = some (.ref C))
    (hmg : G.mg x = some (.ref C)) (hc : G.cnm c = some (x, fn)) (hnd : fn.Nodup) (hl : fn.length ≤ 900)
    (ha : PA X es (LA G W cr)) (hns : es.all notStar = true) (h0 : es = [] → ∀ sp M, cr sp M = .ok [] M) (hdb : (x == ("__debug__" : Str)) = false) :
    PE X (.Call (.Name x p) es [] pos) (LE G W fun sp M => (cr sp M).bind fun ps M1 => newK Γ c fn.length f ps M1) := by
  refine (pe_newD Mk0 F hr tk hg hm ha hns (fun he σ H Q h => by
    obtain ⟨M, ι, sp, m, s, post⟩ := h
    rw [h0 he] at post
    exact post ι H [] m .refl .nil) hdb).w fun σ H Q h => ?_
  · obtain ⟨M, ι, sp, m, s, post⟩ := h
    refine ⟨M, ι, sp, m, s, PostA.bind post fun ps M1 ι1 H1 vs m1 e1 r1 post1 => ?_⟩
    intro a dx ha hdx hne
    have hdx2 : upd H1 dx (.own a) a = none := by rw [upd_ne (fun z => hne z.symm)]; exact ha
    have m2 := m1.new (o := .own a) hdx
    have e2 : Ext M1 ι1 H1 M1 ι1 (upd H1 dx (.own a)) := Ext.new hdx
    have m3 := m2.push (o := .ins c (List.replicate fn.length none)) (u := .ins C dx []) hdx2 ⟨x, fn, C, dx, [], hc, hmg, upd_same, by simp, Nat.zero_le _, ⟨List.length_replicate, hnd, hl, fun _ _ _ _ => rfl⟩, fun i f' p' _ h2 => by
      have := List.eq_of_mem_replicate (List.mem_of_getElem? h2)
      cases this⟩
    have e3 := Ext.push m2 (o := .ins c (List.replicate fn.length none)) (u := .ins C dx []) hdx2
    have e4 := e2.trans e3
    have hl1 := m1.len
    refine ⟨_, _, .ref M1.length :: ps, m3, .cons (.ref (by rw [← m1.len]; exact push_last _ _)) (r1.ext e4), ?_⟩
    unfold newK at post1
    cases hg2 : Γ f (.ref M1.length :: ps) (M1 ++ [some (.ins c (List.replicate fn.length none))]) with
    | bad => rw [hg2] at post1; exact post1.elim
    | exc x2 M2 =>
      rw [hg2] at post1
      exact fun ι' H' cv d q1 q2 q3 => by rw [WEx_at]; exact post1 ι' H' cv d q1 (e4.trans q2) q3
    | ok q M2 =>
      rw [hg2] at post1
      intro ι' H' v q1 q2 q3
      cases q with
      | non =>
        cases q3
        exact ⟨rfl, post1 ι' H' _ q1 (e4.trans q2) (.ref (q2.pre _ _ (by rw [← m1.len]; exact push_last _ _)))⟩
      | _ => exact post1.elim
/-! ### a method is called -/
def tMetD (X : Cx) (k : Nat) (m : Str) (W : WX) (ta : TE) (t : TA) : TE := fun σ H Q => ta σ H fun x H1 => ∃ a C dx fs g sp, x = .ref a ∧ H1 a = some (.ins C dx fs) ∧ Cls X.K C ∧ Meth X.K C m g ∧ FnD X.prog X.w X.K X.mg X.base k g sp ∧ fs.lookup m = none ∧
  t σ H1 fun vs H2 => sp (x :: vs) H2 Q (WEx W σ)
theorem pe_mcallD {k : Nat} {m : Str} {o : PySem.Expr} {es : List PySem.Expr} {ta : TE} {t : TA} {apos pos : Pos} {pl : Sem Bool} (hr : RoomG k X.A) (tk : Takes X W) (he : PE X o ta) (ha : PA X es t) (hns : es.all notStar = true) (h0 : es = [] → ∀ σ H Q, t σ H Q → Q [] H)
    (ht : eval (.Call (.Attribute o m apos) es [] pos) X.env = (do
      let ov ← eval o X.env
      standAt apos.atName
      let (f, first) ← holding [ov] (getMethod ov m pl)
      callWith pos f first (backTo pos (starEach es X.env)) (backToKw pos (keywordEach [] X.env)))) :
    PE X (.Call (.Attribute o m apos) es [] pos) (tMetD X k m W ta t) := by
  refine ⟨fun pins s σ H Q I h => ?_⟩
  refine PySem.W.methodCall_KW (pl := pl) (thn (he.run pins s σ H _ I h) fun u s1 ⟨x, H1, I1, rx, a, C, dx, fs, g, sp, ex, ea, c, hm, F, l, q⟩ => ?_) ht
  subst ex
  obtain rfl : u = Value.ref a := rx
  refine getmeth_ok I1 ea c hm l ?_
  cases es with
  | nil => exact PySem.W.callWith_K0 (first := [.ref a]) I1.kIn hm.kp (run_fnD (us := [.ref a]) (vs := [.ref a]) F hr.f tk I1 (.cons rfl .nil) (h0 rfl _ _ _ q))
  | cons e es =>
    rw [List.all_cons, Bool.and_eq_true] at hns
    refine PySem.W.callWith_K (first := [.ref a]) (h₀ := X.base) I.ok.mod.kin hm.kp (thn (ha.run pos pins s1 σ H1 _ I1 q) fun us s2 ⟨vs, H2, I2, r, q2⟩ => ⟨I2.kIn, ?_⟩) (star_cons hns.1) (star_none hns.2)
    exact run_fnD (us := .ref a :: us) (vs := .ref a :: vs) F hr.f tk I2 (.cons rfl r) q2

theorem lookup_none {f : Str} : ∀ {fs : List (Str × V)}, f ∉ fs.map (·.1) → fs.lookup f = none
  | [], _ => rfl
  | (g, x) :: r, h => by
    rw [List.map_cons, List.mem_cons] at h
    have hb : (f == g) = false := beq_eq_false_iff_ne.mpr fun e => h (.inl e)
    simp only [List.lookup, hb]
    exact lookup_none fun z => h (.inr z)
theorem methP_some {T : Tab} {M : Store} {p : PV} {m : Str} {f : Nat} (h : methP T M p m = some f) : ∃ n c fs j, p = .ref n ∧ M[n]? = some (some (.ins c fs)) ∧ T.mts[j]? = some (c, m) ∧ f = T.fnm.length + j := by
  unfold methP at h
  split at h
  · rename_i n
    split at h
    · rename_i c fs hM
      split at h
      · rename_i j hj
        cases h
        obtain ⟨h1, h2, _⟩ := List.findIdx?_eq_some_iff_getElem.mp hj
        simp only [Bool.and_eq_true, decide_eq_true_eq] at h2
        exact ⟨n, c, fs, j, rfl, hM, by rw [List.getElem?_eq_getElem h1]; exact congrArg some (Prod.ext h2.1 h2.2), rfl⟩
      · cases h
    · cases h
  · cases h
/-- what the call of a method says, in the model's words -/
theorem ev_mcallX {env : Env} {o : PySem.Expr} {m : Str} {apos pos : Pos} {es : List PySem.Expr} (hn : notCall o = true) (hns : es.all notStar = true) (hle : es.length < 29) (hline : (apos.endLine == pos.line) = true) :
    eval (.Call (.Attribute o m apos) es [] pos) env = (do
      let ov ← eval o env
      standAt apos.atName
      let (f, first) ← holding [ov] (getMethod ov m (do return (← importBound o env).getD true))
      callWith pos f first (backTo pos (starEach es env)) (backToKw pos (keywordEach [] env))) := by
  have h1 : ∀ {es : List PySem.Expr}, es.all notStar = true → (backTo pos (starEach es env)).all (fun x => !x.1) = true := fun {es} => by
    induction es with
    | nil => exact fun _ => rfl
    | cons e es ih =>
      intro h
      rw [List.all_cons, Bool.and_eq_true] at h
      rw [star_cons h.1]
      show (!false && (backTo pos (starEach es env)).all (fun x => !x.1)) = true
      rw [ih h.2]
      rfl
  have hform : methodCallForm (es.length + ([] : List Keyword).length) (backTo pos (starEach es env)) (backToKw pos (keywordEach [] env)) = true := by
    unfold methodCallForm
    rw [h1 hns]
    simp only [Bool.true_and, Bool.and_eq_true, decide_eq_true_eq]
    exact ⟨rfl, by show es.length + 0 + 0 < 30; omega⟩
  have hpos : methodCallPos true o env apos pos = pure pos := by unfold methodCallPos; simp [hline]
  rw [arm_eval_Call, base_of hn]
  unfold methodCall
  rw [hform, hpos]
  simp only [calleeOf, if_true, pure_bind]
theorem se_mcall {T : Tab} {k : Nat} {m : Str} {o : PySem.Expr} {es : List PySem.Expr} {co : Ev PV} {cr : Ev (List PV)} {apos pos : Pos} (tok : TabOk T G) (hK : X.K = G.K) (hF : ∀ (f : Nat) (a : Addr), FAt G f a → FnD X.prog X.w X.K X.mg X.base k a (spD G (Γ f))) (hr : RoomG k X.A) (tk : Takes X W) (he : PE X o (LE G W co)) (ha : PA X es (LA G W cr))
    (hn : notCall o = true) (hns : es.all notStar = true) (hle : es.length < 29) (hline : (apos.endLine == pos.line) = true) (h0 : es = [] → ∀ sp M, cr sp M = .ok [] M) :
    PE X (.Call (.Attribute o m apos) es [] pos) (LE G W fun sp M => (co sp M).bind fun p M1 => match methP T M1 p m with
      | some f => (cr sp M1).bind fun ps M2 => Γ f (p :: ps) M2
      | none => .bad) := by
  refine (pe_mcallD hr tk he ha hns (fun he σ H Q h => by
    obtain ⟨M, ι, sp, m, s, post⟩ := h
    rw [h0 he] at post
    exact post ι H [] m .refl .nil) (ev_mcallX hn hns hle hline)).w fun σ H Q h => ?_
  obtain ⟨M, ι, sp, m0, s, post⟩ := h
  refine ⟨M, ι, sp, m0, s, post.bind fun p M1 ι1 H1 v m1 e1 r1 post1 => ?_⟩
  cases hq : methP T M1 p m with
  | none => rw [hq] at post1; exact post1.elim
  | some f =>
    rw [hq] at post1
    obtain ⟨n, c, fs, j, rfl, hM, hmem, rfl⟩ := methP_some hq
    have r1' := r1
    cases r1 with
    | ref hι =>
      obtain ⟨a, ha', hob⟩ := m1.obj n _ hM
      rw [hι] at ha'
      cases ha'
      obtain ⟨nm, fn, C, dx, fvs, g1, g2, g3, g4, _⟩ := hob
      obtain ⟨x, fn', C', g, w1, w2, w3, w4, w5, w6, _⟩ := tok.met j c m hmem
      have w7 := (tok.cnm c x fn' w1).1
      rw [g1] at w7
      cases w7
      rw [g2] at w3
      cases w3
      obtain ⟨hc, _⟩ := tok.own c w2 _ _ C w1 g2
      refine ⟨_, C, dx, fvs, g, _, rfl, g3, hK ▸ hc, hK ▸ w5, hF _ g (.inr ⟨c, m, nm, fn, C, w6, g1, g2, w5.at_⟩), lookup_none (fun z => w4 (g4 m z)), M1, ι1, sp, m1, s.ext e1, PostA.bind post1 fun ps M2 ι2 H2 vs m2 e2 r2 post2 => ?_⟩
      exact ⟨M2, ι2, .ref n :: ps, m2, .cons (r1'.ext e2) r2, PostF.ofE (W := W) (σ := σ) post2⟩
/-! ### methods of lists -/
def bmSyn : BM → String
  | .append => "append" | .pop => "pop" | .extend => "extend" | .insert => "insert"
def LM2 (G : Gd) (m : BM) : V → List V → Hp → VK → Prop := fun x vs H Q => ∃ M ι p ps, MRel G M ι H ∧ Rp G ι H (Own M ι) p x ∧ Rps G ι H (Own M ι) ps vs ∧ ∃ r M', bmP m M p ps = some (r, M') ∧ ∀ ι' H' v, MRel G M' ι' H' → Ext M ι H M' ι' H' → Rp G ι' H' (Own M' ι') r v → Q v H'
theorem Rps.eraseIdx {O : Addr → Prop} {ι : List Addr} {H : Hp} : ∀ {ps : List PV} {vs : List V} (i : Nat), Rps G ι H O ps vs → Rps G ι H O (ps.eraseIdx i) (vs.eraseIdx i)
  | _, _, _, .nil => .nil
  | _, _, 0, .cons _ t => t
  | _, _, i + 1, .cons r t => .cons r (t.eraseIdx i)
theorem Rps.dropLast {O : Addr → Prop} {ι : List Addr} {H : Hp} : ∀ {ps : List PV} {vs : List V}, Rps G ι H O ps vs → Rps G ι H O ps.dropLast vs.dropLast
  | _, _, .nil => .nil
  | _, _, .cons _ .nil => .nil
  | _, _, .cons r (.cons s t) => .cons r (Rps.dropLast (.cons s t))
theorem lm2_pop {x : V} {H : Hp} {Q : VK} (h : LM2 G .pop x [] H Q) : rPop x [] H Q := by
  obtain ⟨M, ι, p, ps, m, r, rs, r', M', hh, post⟩ := h
  cases rs
  change popP M p [] = some (r', M') at hh
  unfold popP at hh
  split at hh
  · rename_i n _
    split at hh
    · rename_i xs hx
      split at hh
      · rename_i q hq
        cases hh
        obtain ⟨a, ws, rfl, h1, h2, h3, h4, h5⟩ := m.lstAt hx r
        obtain ⟨v, hv, rv⟩ := h5.get hq
        have hl := h5.length
        rw [hl] at hv
        have hE := Ext.write (H := H) (u := .lst ws.dropLast) (o' := .lst xs.dropLast) h2 h1
        have hrq := Rp.ext hE _ v rv
        refine ⟨a, ws, v, rfl, rfl, h3, hv, post ι _ _ (m.writeL h2 h1 (by rw [List.length_dropLast]; omega) h5.dropLast) hE hrq⟩
      · cases hh
    · cases hh
  · rename_i n i hn
    cases hn
  · cases hh
theorem lm2_popAt {x w : V} {H : Hp} {Q : VK} (h : LM2 G .pop x [w] H Q) : rPopAt x [w] H Q := by
  obtain ⟨M, ι, p, ps, m, r, rs, r', M', hh, post⟩ := h
  change popP M p ps = some (r', M') at hh
  unfold popP at hh
  split at hh
  · cases rs
  · rename_i n i
    cases rs with
    | cons r0 rs =>
      cases rs
      cases r0
      split at hh
      · rename_i xs hx
        split at hh
        · rename_i h0
          split at hh
          · rename_i q hq
            cases hh
            obtain ⟨a, ws, rfl, h1, h2, h3, h4, h5⟩ := m.lstAt hx r
            obtain ⟨v, hv, rv⟩ := h5.get hq
            have hlt : i.toNat < ws.length := (List.getElem?_eq_some_iff.mp hv).1
            have hle := h5.length
            have hsz : sizeLine ≤ 2 ^ 62 := by decide
            have hE := Ext.write (H := H) (u := .lst (ws.eraseIdx i.toNat)) (o' := .lst (xs.eraseIdx i.toNat)) h2 h1
            refine ⟨a, ws, i, i.toNat, v, rfl, rfl, h3, by omega, by omega, ?_, hv, post ι _ _ (m.writeL h2 h1 (by have := List.length_eraseIdx_le (l := xs) (i := i.toNat); omega) (h5.eraseIdx _)) hE (Rp.ext hE _ v rv)⟩
            have hj : (if i < 0 then i + (ws.length : Int) else i) = i := if_neg (by omega)
            have hb : (decide (0 ≤ i) && decide (i < (ws.length : Int))) = true := by
              rw [Bool.and_eq_true, decide_eq_true_eq, decide_eq_true_eq]
              exact ⟨h0, by omega⟩
            simp only [seqIndex?, hj, hb, if_true]
          · cases hh
        · cases hh
      · cases hh
  · cases hh
theorem lm2_extend {x : V} {vs : List V} {H : Hp} {Q : VK} (h : LM2 G .extend x vs H Q) : rExtend x vs H Q := by
  obtain ⟨M, ι, p, ps, m, r, rs, r', M', hh, post⟩ := h
  change extP M p ps = some (r', M') at hh
  unfold extP at hh
  split at hh
  · rename_i n q
    cases rs with
    | cons r0 rs =>
      cases rs
      split at hh
      · rename_i xs hx
        split at hh
        · rename_i ys hy
          split at hh
          · rename_i hz
            cases hh
            obtain ⟨a, ws, rfl, h1, h2, h3, h4, h5⟩ := m.lstAt hx r
            obtain ⟨b, us, rfl, k1, k2, k3⟩ := m.itemsL hy r0
            have l1 := h5.length
            have l2 := k3.length
            exact ⟨a, b, ws, us, rfl, rfl, h3, k1, by omega, post ι _ _ (m.writeL h2 h1 (by rw [List.length_append]; omega) (h5.append k3)) (Ext.write h2 h1) .non⟩
          · cases hh
        · cases hh
      · cases hh
  · cases hh
def rInsert : V → List V → Hp → VK → Prop := fun x vs H Q => ∃ (l : Addr) (xs : List V) (i : Int) (y : V), x = .ref l ∧ vs = [.int i, y] ∧ H l = some (.lst xs) ∧ xs.length < sizeLine ∧ 0 ≤ i ∧ i < 2 ^ 63 ∧
    Q .non (upd H l (.lst (xs.take i.toNat ++ [y] ++ xs.drop i.toNat)))
theorem lm2_insert {x : V} {vs : List V} {H : Hp} {Q : VK} (h : LM2 G .insert x vs H Q) : rInsert x vs H Q := by
  obtain ⟨M, ι, p, ps, m, r, rs, r', M', hh, post⟩ := h
  change insP M p ps = some (r', M') at hh
  unfold insP at hh
  split at hh
  · rename_i n i q
    split at hh
    · rename_i xs hx
      split at hh
      · rename_i hz
        cases hh
        obtain ⟨a, ws, rfl, h1, h2, h3, h4, h5⟩ := m.lstAt hx r
        obtain ⟨v, w, rfl, rv, rw'⟩ := rs.two
        cases rv
        have l1 := h5.length
        have hsz : sizeLine ≤ 2 ^ 62 := by decide
        exact ⟨a, ws, i, w, rfl, rfl, h3, by omega, hz.1, by omega, post ι _ _ (m.writeL h2 h1 (by simp only [List.length_append, List.length_take, List.length_drop, List.length_cons, List.length_nil]; omega) (((h5.take _).append (.cons rw' .nil)).append (h5.drop _))) (Ext.write h2 h1) .non⟩
      · cases hh
    · cases hh
  · cases hh
theorem LM2.post {m : BM} {M2 : Store} {ι2 : List Addr} {H2 : Hp} {p : PV} {ps : List PV} {x : V} {vs : List V} {Q : VK} {σ : St} (m2 : MRel G M2 ι2 H2) (r : Rp G ι2 H2 (Own M2 ι2) p x) (rs : Rps G ι2 H2 (Own M2 ι2) ps vs) (post : PostE G W σ M2 ι2 H2 Q (bmR m M2 p ps)) : LM2 G m x vs H2 Q := by
  unfold bmR at post
  cases hh : bmP m M2 p ps with
  | none => rw [hh] at post; exact post.elim
  | some q =>
    obtain ⟨r', M3⟩ := q
    rw [hh] at post
    exact ⟨M2, ι2, p, ps, m2, r, rs, r', M3, hh, post⟩
/-- a method of a list, with arguments -/
theorem se_bm {m : BM} {o e : PySem.Expr} {es : List PySem.Expr} {apos cpos : Pos} {co : Ev PV} {car : Ev (List PV)} {id : String} {r : V → List V → Hp → VK → Prop} (slot : Slot "list" (bmSyn m) id) (hty : typeOf (.builtin id) = pure (.type "method_descriptor")) (hm : MtR X id r)
    (hlm : ∀ {x vs H Q}, vs.length = (e :: es).length → LM2 G m x vs H Q → r x vs H Q) (hlen : ∀ sp M ps M1, car sp M = .ok ps M1 → ps.length = (e :: es).length)
    (hn : notCall o = true) (hns : (e :: es).all notStar = true) (hle : es.length < 28) (hline : (apos.endLine == cpos.line) = true) (ho : PE X o (LE G W co)) (ha : PA X (e :: es) (LA G W car)) :
    PE X (.Call (.Attribute o (bmSyn m) apos) (e :: es) [] cpos) (LE G W fun sp M => (co sp M).bind fun p M1 => if tyM M1 p = true then (car sp M1).bind fun ps M2 => bmR m M2 p ps else .bad) := by
  have hns' := hns
  rw [List.all_cons, Bool.and_eq_true] at hns'
  refine (pe_bm PySem.F.plainAttrs_list slot hty hm ho ha (base_of hn) (bm_all hns hle) hline (star_cons hns'.1) (star_none hns'.2)).w fun σ H Q h => ?_
  obtain ⟨M, ι, sp, m0, s, post⟩ := h
  refine ⟨M, ι, sp, m0, s, post.bind fun p M1 ι1 H1 v m1 e1 r1 post1 => ?_⟩
  split at post1
  · rename_i ht
    refine ⟨tyM_tyV m1 r1 ht, M1, ι1, sp, m1, s.ext e1, ?_⟩
    cases ec : car sp M1 with
    | bad => rw [ec] at post1; exact post1.elim
    | exc x2 M2 => rw [ec] at post1; exact post1
    | ok ps M2 =>
      rw [ec] at post1
      intro ι2 H2 vs m2 e2 r2
      exact hlm (by rw [← r2.length]; exact hlen _ _ _ _ ec) (LM2.post m2 (r1.ext e2) r2 (PostE.from (r := bmR m M2 p ps) post1 e2))
  · exact post1.elim
theorem se_bmA {m : BM} {o e : PySem.Expr} {es : List PySem.Expr} {apos cpos : Pos} {co : Ev PV} {car : Ev (List PV)} {id : String} {r : V → List V → Hp → VK → Prop} (slot : Slot "list" (bmSyn m) id) (hty : typeOf (.builtin id) = pure (.type "method_descriptor")) (hm : MtR X id r)
    (hlm : ∀ {x vs H Q}, LM2 G m x vs H Q → r x vs H Q)
    (hn : notCall o = true) (hns : (e :: es).all notStar = true) (hle : es.length < 28) (hline : (apos.endLine == cpos.line) = true) (ho : PE X o (LE G W co)) (ha : PA X (e :: es) (LA G W car)) :
    PE X (.Call (.Attribute o (bmSyn m) apos) (e :: es) [] cpos) (LE G W fun sp M => (co sp M).bind fun p M1 => if tyM M1 p = true then (car sp M1).bind fun ps M2 => bmR m M2 p ps else .bad) := by
  have hns' := hns
  rw [List.all_cons, Bool.and_eq_true] at hns'
  refine (pe_bm PySem.F.plainAttrs_list slot hty hm ho ha (base_of hn) (bm_all hns hle) hline (star_cons hns'.1) (star_none hns'.2)).w fun σ H Q h => ?_
  obtain ⟨M, ι, sp, m0, s, post⟩ := h
  refine ⟨M, ι, sp, m0, s, post.bind fun p M1 ι1 H1 v m1 e1 r1 post1 => ?_⟩
  split at post1
  · rename_i ht
    exact ⟨tyM_tyV m1 r1 ht, M1, ι1, sp, m1, s.ext e1, PostA.bind post1 fun ps M2 ι2 H2 vs m2 e2 r2 post2 => hlm (LM2.post m2 (r1.ext e2) r2 post2)⟩
  · exact post1.elim
/-- xs.pop() -/
theorem se_pop0 {o : PySem.Expr} {apos cpos : Pos} {co : Ev PV} (hn : notCall o = true) (hline : (apos.endLine == cpos.line) = true) (ho : PE X o (LE G W co)) :
    PE X (.Call (.Attribute o "pop" apos) [] [] cpos) (LE G W fun sp M => (co sp M).bind fun p M1 => if tyM M1 p = true then bmR .pop M1 p [] else .bad) := by
  refine (pe_bm0 PySem.F.plainAttrs_list PySem.F.slot_list_pop PySem.F.type_list_pop mt_pop ho (base_of hn) hline).w fun σ H Q h => ?_
  obtain ⟨M, ι, sp, m0, s, post⟩ := h
  refine ⟨M, ι, sp, m0, s, post.bind fun p M1 ι1 H1 v m1 e1 r1 post1 => ?_⟩
  split at post1
  · rename_i ht
    exact ⟨tyM_tyV m1 r1 ht, lm2_pop (LM2.post m1 r1 .nil post1)⟩
  · exact post1.elim
end
/-- how many values these words give -/
def cesLen : CEs → Option Nat
  | .nil => some 0
  | .cons _ r => match cesLen r with
    | some n => some (n + 1)
    | none => none
  | .star _ _ => none
theorem cesLen_ok {T : Tab} {Γ : Fns} : ∀ (cs : CEs) (n : Nat), cesLen cs = some n → ∀ sp M ps M1, evs T Γ cs sp M = .ok ps M1 → ps.length = n
  | .nil, n, h, sp, M, ps, M1, e => by
    simp only [cesLen] at h
    cases h
    simp only [evs] at e
    cases e
    rfl
  | .cons c r, n, h, sp, M, ps, M1, e => by
    simp only [cesLen] at h
    split at h
    · rename_i k hk
      cases h
      simp only [evs] at e
      cases e1 : ev T Γ c sp M with
      | ok p M2 =>
        rw [e1] at e
        simp only [Res.bind] at e
        cases e2 : evs T Γ r sp M2 with
        | ok qs M3 =>
          rw [e2] at e
          simp only [Res.bind] at e
          cases e
          have hl := cesLen_ok r k hk sp M2 qs _ e2
          simp [hl]
        | exc x M3 => rw [e2] at e; cases e
        | bad => rw [e2] at e; cases e
      | exc x M2 => rw [e1] at e; cases e
      | bad => rw [e1] at e; cases e
    · cases h
  | .star _ _, n, h, _, _, _, _, _ => by simp [cesLen] at h
end DI
set_option maxHeartbeats 2000000
/-! # DI: dicts whose keys are numbers and texts -/
namespace DI
open PySem PySem.Spec L2
theorem keyP_rp {G : Gd} {ι : List Addr} {H : Hp} {O : Addr → Prop} {q : PV} {y : V} {k : L2.Key} (h : keyP q = some k) (r : Rp G ι H O q y) : y = kV k := by
  cases r <;> first
    | (cases h; rfl)
    | cases h
theorem getA_zip {G : Gd} {ι : List Addr} {H : Hp} {O : Addr → Prop} (k : L2.Key) : ∀ {kvs : List (L2.Key × PV)} {vs : List V}, Rps G ι H O (kvs.map (·.2)) vs →
    (getA kvs k = none ∧ valV ((kvs.map (·.1)).zip vs) k = none) ∨ ∃ p v, getA kvs k = some p ∧ valV ((kvs.map (·.1)).zip vs) k = some v ∧ Rp G ι H O p v
  | [], _, h => by cases h; exact .inl ⟨rfl, rfl⟩
  | (j, p) :: kvs, _, h => by
    cases h with
    | cons h1 h2 =>
      rename_i v vs
      by_cases e : j = k
      · exact .inr ⟨p, v, by simp [getA, List.find?_cons, e], valV_pos e, h1⟩
      · have e1 : getA ((j, p) :: kvs) k = getA kvs k := by simp [getA, List.find?_cons, e]
        have e2 : valV ((((j, p) :: kvs).map (·.1)).zip (v :: vs)) k = valV ((kvs.map (·.1)).zip vs) k := valV_neg (p := (j, v)) e
        rw [e1, e2]
        exact getA_zip k h2
theorem any_zip {k : L2.Key} : ∀ {kvs : List (L2.Key × PV)} {vs : List V}, kvs.length = vs.length → (((kvs.map (·.1)).zip vs).any fun kv => decide (kv.1 = k)) = kvs.any fun kv => decide (kv.1 = k)
  | [], _, _ => rfl
  | (j, p) :: kvs, [], h => by simp at h
  | (j, p) :: kvs, v :: vs, h => by
    simp only [List.map_cons, List.zip_cons_cons, List.any_cons]
    rw [any_zip (kvs := kvs) (vs := vs) (by simpa using h)]
theorem putA_zip {G : Gd} {ι : List Addr} {H : Hp} {O : Addr → Prop} (k : L2.Key) {p : PV} {v : V} (r : Rp G ι H O p v) {kvs : List (L2.Key × PV)} {vs : List V} (h : Rps G ι H O (kvs.map (·.2)) vs) :
    ∃ ws, putK ((kvs.map (·.1)).zip vs) k v = ((putA kvs k p).map (·.1)).zip ws ∧ Rps G ι H O ((putA kvs k p).map (·.2)) ws := by
  have hl : kvs.length = vs.length := by have := h.length; rwa [List.length_map] at this
  unfold putK putA
  rw [any_zip hl]
  split
  · have key : ∀ {kvs : List (L2.Key × PV)} {vs : List V}, Rps G ι H O (kvs.map (·.2)) vs →
        ∃ ws, (((kvs.map (·.1)).zip vs).map fun kv => if kv.1 = k then (kv.1, v) else kv) = ((kvs.map fun kv => if kv.1 = k then (kv.1, p) else kv).map (·.1)).zip ws ∧ Rps G ι H O ((kvs.map fun kv => if kv.1 = k then (kv.1, p) else kv).map (·.2)) ws := fun {kvs} => by
      induction kvs with
      | nil => intro vs h; exact ⟨[], rfl, .nil⟩
      | cons x kvs ih =>
        intro vs h
        cases h with
        | cons h1 h2 =>
          rename_i u us
          obtain ⟨ws, e1, e2⟩ := ih h2
          by_cases e : x.1 = k
          · refine ⟨v :: ws, ?_, ?_⟩
            · simp only [List.map_cons, List.zip_cons_cons, e, if_true]
              rw [e1]
            · simp only [List.map_cons, e, if_true]
              exact .cons r e2
          · refine ⟨u :: ws, ?_, ?_⟩
            · simp only [List.map_cons, List.zip_cons_cons, e, if_false]
              rw [e1]
            · simp only [List.map_cons, e, if_false]
              exact .cons h1 e2
    exact key h
  · refine ⟨vs ++ [v], ?_, ?_⟩
    · rw [List.map_append, List.zip_append (by rw [List.length_map]; exact hl)]
      rfl
    · rw [List.map_append]
      exact h.append (.cons r .nil)
theorem putA_len (kvs : List (L2.Key × PV)) (k : L2.Key) (p : PV) : (putA kvs k p).length ≤ kvs.length + 1 := by
  unfold putA
  split
  · rw [List.length_map]; omega
  · rw [List.length_append, List.length_cons, List.length_nil]; omega
section
variable {G : Gd} {W : WX} {X : Cx} {T : Tab} {Γ : Fns} {M : Store} {ι : List Addr} {H : Hp}
theorem MRel.dctAt (m : MRel G M ι H) {n : Nat} {kvs : List (L2.Key × PV)} {v : V} (h : DI.dctAt M n = some kvs) (r : Rp G ι H (Own M ι) (.ref n) v) :
    ∃ a vs, v = .ref a ∧ ι[n]? = some a ∧ M[n]? = some (some (.dct kvs)) ∧ H a = some (.dK ((kvs.map (·.1)).zip vs)) ∧ kvs.length ≤ sizeLine ∧ Rps G ι H (Own M ι) (kvs.map (·.2)) vs := by
  unfold DI.dctAt at h
  split at h
  · rename_i ys hy
    cases h
    cases r with
    | ref h1 =>
      obtain ⟨a, h3, vs, h4, h5, h6⟩ := m.obj n _ hy
      rw [h1] at h3
      cases h3
      exact ⟨_, vs, rfl, h1, hy, h4, h5, h6⟩
  · cases h
theorem isDP_is (m : MRel G M ι H) {p : PV} {x : V} (h : isDP M p = true) (r : Rp G ι H (Own M ι) p x) : ∃ a, x = .ref a ∧ IsD H a := by
  unfold isDP at h
  split at h
  · obtain ⟨kvs, hk⟩ := Option.isSome_iff_exists.mp h
    obtain ⟨a, vs, rfl, _, _, h4, _⟩ := m.dctAt hk r
    exact ⟨a, rfl, .inl ⟨_, .inl h4⟩⟩
  · cases h
theorem getDP_at (m : MRel G M ι H) {p q : PV} {x y : V} {o : Option PV} (h : getDP M p q = some o) (rp : Rp G ι H (Own M ι) p x) (rq : Rp G ι H (Own M ι) q y) :
    ∃ a o', x = .ref a ∧ DGet H a y o' ∧ ((o = none ∧ o' = none) ∨ ∃ p v, o = some p ∧ o' = some v ∧ Rp G ι H (Own M ι) p v) := by
  unfold getDP at h
  split at h
  · split at h
    · rename_i kvs hk
      obtain ⟨a, vs, rfl, _, _, h4, _, h6⟩ := m.dctAt hk rp
      cases hq : keyP q with
      | none => rw [hq] at h; cases h
      | some k =>
        rw [hq] at h
        cases h
        have := keyP_rp hq rq
        subst this
        refine ⟨a, _, rfl, .k h4, ?_⟩
        rcases getA_zip k h6 with ⟨e1, e2⟩ | ⟨p, v, e1, e2, e3⟩
        · exact .inl ⟨e1, e2⟩
        · exact .inr ⟨p, v, e1, e2, e3⟩
    · cases h
  · cases h
/-- {} -/
theorem se_dctN {pos : Pos} : PE X (.Dict [] [] pos) (LE G W fun sp M => .ok (.ref M.length) (M ++ [some (.dct [])])) :=
  pe_dnewK.w fun σ H Q h => by
    obtain ⟨M, ι, sp, m, s, post⟩ := h
    intro p hp
    exact post _ _ _ (m.push hp ⟨[], upd_same, Nat.zero_le _, .nil⟩) (Ext.push m hp) (.ref (by rw [← m.len]; exact push_last _ _))
/-- o.get(k, d) -/
theorem se_getD {o e f : PySem.Expr} {apos cpos : Pos} {co ck cd : Ev PV} (hu : X.A.units + 1 < cLine) (ho : PE X o (LE G W co)) (he : PE X e (LE G W ck)) (hf : PE X f (LE G W cd)) (m2 : L2.M2 X o "get" apos e f cpos) :
    PE X (.Call (.Attribute o "get" apos) [e, f] [] cpos) (LE G W fun sp M => (co sp M).bind fun p M1 => if isDP M1 p = true then (ck sp M1).bind fun q M2 => (cd sp M2).bind fun z M3 => .ofO ((getDP M3 p q).map fun r => r.getD z) M3 else .bad) :=
  (pe_dget2 hu ho he hf m2).w fun σ H Q h => by
    obtain ⟨M, ι, sp, m, s, post⟩ := h
    refine ⟨M, ι, sp, m, s, post.bind fun p M1 ι1 H1 x m1 e1 r1 post1 => ?_⟩
    split at post1
    · rename_i hd
      obtain ⟨a, rfl, hi⟩ := isDP_is m1 hd r1
      refine ⟨a, rfl, hi, M1, ι1, sp, m1, s.ext e1, post1.bind fun q M2 ι2 H2 y m2 e2 r2 post2 => ⟨M2, ι2, sp, m2, (s.ext e1).ext e2, post2.bind fun z M3 ι3 H3 w m3 e3 r3 post3 => ?_⟩⟩
      cases hg : getDP M3 p q with
      | none => rw [hg] at post3; exact post3.elim
      | some o =>
        rw [hg] at post3
        obtain ⟨a', o', hx, hdg, hoo⟩ := getDP_at m3 hg ((r1.ext e2).ext e3) (r2.ext e3)
        cases hx
        refine ⟨o', hdg, ?_⟩
        rcases hoo with ⟨rfl, rfl⟩ | ⟨p', v, rfl, rfl, rv⟩
        · exact post3 ι3 H3 w m3 .refl r3
        · exact post3 ι3 H3 v m3 .refl rv
    · exact post1.elim
theorem inD_w {ng : Bool} {co ck : Ev PV} {σ : St} {H : Hp} {Q : VK} (h : LE G W (fun sp M => (ck sp M).bind fun q M1 => (co sp M1).bind fun p M2 => .ofO (inDP ng M2 p q) M2) σ H Q) :
      LE G W ck σ H fun y H1 => LE G W co σ H1 fun x H2 => ∃ a o, x = .ref a ∧ DGet H2 a y o ∧ Q (.bl (if ng = true then !o.isSome else o.isSome)) H2 := by
  obtain ⟨M, ι, sp, m, s, post⟩ := h
  refine ⟨M, ι, sp, m, s, post.bind fun q M1 ι1 H1 y m1 e1 r1 post1 => ⟨M1, ι1, sp, m1, s.ext e1, post1.bind fun p M2 ι2 H2 x m2 e2 r2 post2 => ?_⟩⟩
  unfold inDP at post2
  cases hg : getDP M2 p q with
  | none => rw [hg] at post2; exact post2.elim
  | some o =>
    rw [hg] at post2
    obtain ⟨a', o', rfl, hdg, hoo⟩ := getDP_at m2 hg r2 (r1.ext e2)
    refine ⟨a', o', rfl, hdg, ?_⟩
    rcases hoo with ⟨rfl, rfl⟩ | ⟨p', v, rfl, rfl, rv⟩
    · exact post2 ι2 H2 _ m2 .refl (.bl _)
    · exact post2 ι2 H2 _ m2 .refl (.bl _)
/-- k in o, k not in o -/
theorem se_inD {ng : Bool} {o e : PySem.Expr} {pos : Pos} {co ck : Ev PV} (hu : X.A.units + 1 < cLine) (hn : notSet o = true) (he : PE X e (LE G W ck)) (ho : PE X o (LE G W co)) :
    PE X (.Compare e [if ng = true then .NotIn else .In] [o] pos) (LE G W fun sp M => (ck sp M).bind fun q M1 => (co sp M1).bind fun p M2 => .ofO (inDP ng M2 p q) M2) := by
  cases ng with
  | true => exact (pe_cmp (pc_dnotin hu he ho) (behind_of hn)).w fun σ H Q h => inD_w (ng := true) h
  | false => exact (pe_cmp (pc_din hu he ho) (behind_of hn)).w fun σ H Q h => inD_w (ng := false) h
theorem st_inD {ng : Bool} {o e : PySem.Expr} {pos : Pos} {co ck : Ev PV} (hu : X.A.units + 1 < cLine) (hn : notSet o = true) (he : PE X e (LE G W ck)) (ho : PE X o (LE G W co)) :
    PT X (.Compare e [if ng = true then .NotIn else .In] [o] pos) (LT G W fun sp M => evTr ((ck sp M).bind fun q M1 => (co sp M1).bind fun p M2 => .ofO (inDP ng M2 p q) M2)) := by
  cases ng with
  | true => exact (pt_cmp (pc_dnotin hu he ho) (behind_of hn)).w fun σ H Q h => inD_w (ng := true) h.le
  | false => exact (pt_cmp (pc_din hu he ho) (behind_of hn)).w fun σ H Q h => inD_w (ng := false) h.le
/-- o[k] -/
theorem se_idxD {o e : PySem.Expr} {pos : Pos} {co ck : Ev PV} (hu : X.A.units + 1 < cLine) (ho : PE X o (LE G W co)) (he : PE X e (LE G W ck)) (hs : NoSl e) :
    PE X (.Subscript o e pos) (LE G W fun sp M => (co sp M).bind fun p M1 => (ck sp M1).bind fun q M2 => .ofO ((getDP M2 p q).bind id) M2) :=
  (pe_dget hu ho he hs).w fun σ H Q h => by
    obtain ⟨M, ι, sp, m, s, post⟩ := h
    refine ⟨M, ι, sp, m, s, post.bind fun p M1 ι1 H1 x m1 e1 r1 post1 => ⟨M1, ι1, sp, m1, s.ext e1, post1.bind fun q M2 ι2 H2 y m2 e2 r2 post2 => ?_⟩⟩
    cases hg : getDP M2 p q with
    | none => rw [hg] at post2; exact post2.elim
    | some o =>
      rw [hg] at post2
      obtain ⟨a', o', rfl, hdg, hoo⟩ := getDP_at m2 hg (r1.ext e2) r2
      rcases hoo with ⟨rfl, rfl⟩ | ⟨p', v, rfl, rfl, rv⟩
      · exact post2.elim
      · exact ⟨a', v, rfl, hdg, post2 ι2 H2 v m2 .refl rv⟩
end
theorem noSl_of {e : PySem.Expr} (h : notSlice e = true) : NoSl e := fun ov iv => by cases e <;> first | rfl | cases h
theorem m2_of {X : Cx} {o e f : PySem.Expr} {m : Str} {apos cpos : Pos} (h1 : notCall o = true) (h2 : notStar e = true) (h3 : notStar f = true) (h4 : (apos.endLine == cpos.line) = true) : L2.M2 X o m apos e f cpos where
  base := base_of h1
  few := by
    rw [star_cons h2, star_cons h3]
    rfl
  line := h4
  trees := by
    rw [star_cons h2, star_cons h3]
    rfl
end DI
set_option maxHeartbeats 2000000
/-! # DI: code and syntax agree (a test), and then the code's value is what the syntax gives -/
namespace DI
open PySem PySem.Spec L2

def isTup : PySem.Expr → Bool
  | .Tuple .. => true
  | _ => false
def btys : List (Str × String) := [("int", "int"), ("str", "str"), ("bool", "bool"), ("list", "list"), ("tuple", "tuple"), ("dict", "dict"), ("set", "set")]
theorem btys_boot : ∀ p ∈ btys, bootBuiltins p.1 = some (.type p.2) ∧ p.1 ≠ "__name__" := by
  intro p hp
  simp only [btys, List.mem_cons, List.not_mem_nil, or_false] at hp
  rcases hp with rfl | rfl | rfl | rfl | rfl | rfl | rfl <;> exact ⟨by decide +kernel, by decide +kernel⟩
mutual
def chkT (N : List Str) (sc : Scope) (fb : Str → Bool) (t : CT) (e : PySem.Expr) : Bool := match t with
  | .name i => match e with
    | .Name x _ => decide (N[i]? = some x) && locB sc x && (fb x || decide (sc.names.lookup x = some .local))
    | _ => false
  | .tup ts => match e with
    | .Tuple es _ _ => es.all notStar && decide (es.length = ts.length) && chkTs N sc fb ts es
    | _ => false
def chkTs (N : List Str) (sc : Scope) (fb : Str → Bool) (ts : List CT) (es : List PySem.Expr) : Bool := match ts with
  | [] => es.isEmpty
  | t :: ts => match es with
    | e :: es => notStar e && chkT N sc fb t e && chkTs N sc fb ts es
    | [] => false
end
/-- a lambda without parameters -/
def noPs (a : Arguments) : Bool := a.posonlyargs.isEmpty && a.args.isEmpty && a.vararg.isNone && a.kwonlyargs.isEmpty && a.kw_defaults.isEmpty && a.kwarg.isNone && a.defaults.isEmpty
section
variable (T : Tab) (N : List Str)
mutual
/-- k: as a test too -/
def chkE (sc : Scope) (k : Bool) (c : CE) (e : PySem.Expr) : Bool := match c with
  | .var i => match e with
    | .Name x _ => decide (N[i]? = some x) && visB sc x && dbgB x
    | _ => false
  | .non => match e with
    | .Constant .none _ _ => true
    | _ => false
  | .bl b => match e with
    | .Constant (.bool d) _ _ => decide (b = d)
    | _ => false
  | .int i => match e with
    | .Constant (.int j) _ _ => decide (i = j)
    | _ => false
  | .str s => match e with
    | .Constant (.str z) _ _ => decide (s = z)
    | _ => false
  | .glob j => match e with
    | .Name x _ => (match T.cst[j]? with
      | some (y, _) => decide (x = y)
      | none => false) && glB sc x && dbgB x
    | _ => false
  | .fn f => match e with
    | .Name x _ => decide (T.fnm[f]? = some x) && glB sc x && dbgB x
    | _ => false
  | .bty n => match e with
    | .Name x _ => btys.any (fun p => decide (p = (x, n))) && T.free.any (fun y => decide (y = x)) && glB sc x && dbgB x
    | _ => false
  | .neg a => match e with
    | .UnaryOp .USub x _ => !k && chkE sc false a x
    | _ => false
  | .notE a => match e with
    | .UnaryOp .Not x _ => chkE sc k a x
    | _ => false
  | .bin op a b => match e with
    | .BinOp x op' y _ => decide (op = op') && chkE sc false a x && chkE sc false b y
    | _ => false
  | .cmp op a b => match e with
    | .Compare x [op'] [y] _ => decide (op = op') && notSet y && chkE sc false a x && chkE sc false b y
    | _ => false
  | .cmp2 op op2 a b c => match e with
    | .Compare x [o1, o2] [y, z] _ => decide (op = o1) && decide (op2 = o2) && !lastMarks [o1, o2] [y, z] && chkE sc false a x && chkE sc false b y && chkE sc false c z
    | _ => false
  | .andE es => match e with
    | .BoolOp .And xs _ => chkB sc k es xs
    | _ => false
  | .orE es => match e with
    | .BoolOp .Or xs _ => chkB sc k es xs
    | _ => false
  | .ife c a b => match e with
    | .IfExp t x y _ => !k && chkE sc true c t && chkE sc false a x && chkE sc false b y
    | _ => false
  | .tup es => match e with
    | .Tuple xs _ _ => chkEs sc es xs
    | _ => false
  | .lst es => match e with
    | .List xs _ => chkEs sc es xs
    | _ => false
  | .lstR es => match e with
    | .List xs _ => chkEs sc es xs
    | _ => false
  | .idx a i => match e with
    | .Subscript x y _ => notSlice y && chkE sc false a x && chkE sc false i y
    | _ => false
  | .slc a lo hi => match e with
    | .Subscript x (.Slice l h none _) _ => chkE sc false a x && chkO sc lo l && chkO sc hi h
    | _ => false
  | .call f es => match e with
    | .Call (.Name x _) xs [] _ => decide (T.fnm[f]? = some x) && glB sc x && dbgB x && xs.all notStar && chkEs sc es xs
    | _ => false
  | .callV i es => match e with
    | .Call (.Name x _) xs [] _ => decide (N[i]? = some x) && visB sc x && dbgB x && xs.all notStar && chkEs sc es xs
    | _ => false
  | .callB b es => match e with
    | .Call (.Name x _) (a :: xs) [] _ => decide (x = biNm b) && T.free.any (fun y => decide (y = x)) && glB sc x && (a :: xs).all notStar && chkEs sc es (a :: xs)
    | _ => false
  | .meth m o es => match e with
    | .Call (.Attribute ob nm ap) xs [] cp => decide (nm = bmSyn m) && notCall ob && xs.all notStar && decide (xs.length < 28) && (ap.endLine == cp.line) && (decide (m = .pop) || !xs.isEmpty) && (!decide (m = .pop) || (decide (xs.length ≤ 1) && decide (cesLen es = some xs.length))) && chkE sc false o ob && chkEs sc es xs
    | _ => false
  | .fld a f => match e with
    | .Attribute x g _ => decide (g = f) && notCall x && chkE sc false a x
    | _ => false
  | .newI c n j es => match e with
    | .Call (.Name x _) xs [] _ => (match T.cnm[c]? with
      | some (y, fs) => decide (x = y) && decide (fs.length = n)
      | none => false) && decide (T.mts[j]? = some (c, ("__init__" : Str))) && glB sc x && dbgB x && xs.all notStar && chkEs sc es xs
    | _ => false
  | .mcall a m es => match e with
    | .Call (.Attribute ob nm ap) xs [] cp => decide (nm = m) && notCall ob && xs.all notStar && decide (xs.length < 29) && (ap.endLine == cp.line) && chkE sc false a ob && chkEs sc es xs
    | _ => false
  | .dctN => match e with
    | .Dict [] [] _ => true
    | _ => false
  | .getD o i d => match e with
    | .Call (.Attribute ob nm ap) [x, y] [] cp => decide (nm = "get") && notCall ob && notStar x && notStar y && (ap.endLine == cp.line) && chkE sc false o ob && chkE sc false i x && chkE sc false d y
    | _ => false
  | .inD ng i o => match e with
    | .Compare x [op] [y] _ => decide (op = if ng = true then .NotIn else .In) && notSet y && chkE sc false i x && chkE sc false o y
    | _ => false
  | .idxD o i => match e with
    | .Subscript x y _ => notSlice y && chkE sc false o x && chkE sc false i y
    | _ => false
  | .frz i => match e with
    | .Name x _ => !k && decide (N[i]? = some x) && visB sc x && dbgB x
    | _ => false
  | .sset a => match e with
    | .Call (.Name x _) [.Call (.Name y _) [z] [] _] [] _ => decide (x = "sorted") && decide (y = "set") && T.free.any (fun y => decide (y = x)) && T.free.any (fun z => decide (z = y)) && glB sc x && glB sc y && notStar z && chkE sc false a z
    | _ => false
  | .listR a => match e with
    | .Call (.Name x _) [y] [] _ => decide (x = "list") && T.free.any (fun y => decide (y = x)) && glB sc x && notStar y && chkE sc false a y
    | _ => false
  | .index o x => match e with
    | .Call (.Attribute ob nm ap) [y] [] cp => decide (nm = "index") && notCall ob && notStar y && (ap.endLine == cp.line) && chkE sc false o ob && chkE sc false x y
    | _ => false
  | .rev a => match e with
    | .Subscript x (.Slice none none (some (.UnaryOp .USub (.Constant (.int 1) _ _) _)) _) _ => chkE sc false a x
    | _ => false
  | .srt a => match e with
    | .Call (.Name x _) [y] [] _ => decide (x = "sorted") && T.free.any (fun y => decide (y = x)) && glB sc x && notStar y && chkE sc false a y
    | _ => false
  | .heard f a => match e with
    | .Call (.Name x _) [.Lambda ps b lsc _] [] _ => decide (T.fnm[f]? = some x) && T.hrd.any (fun h => decide (h.f = f)) && decide (T.lns = some sc.names) && !decide (T.lns = some lsc.names) && LamX.lamSB sc lsc && noPs ps && glB sc x && chkE lsc false a b
    | _ => false
  | .comp own tg it cd elt => match e with
    | .ListComp y [⟨tx, ix, fx, 0⟩] scope _ => !decide (T.lns = some (relS scope sc).names) && blkC N sc scope own && chkT N (relS scope sc) (fun x => scope.names.lookup x == some .cell) tg tx && tg.slots.all (fun i => (own.map (·.2)).any fun j => decide (j = i)) && notSet ix && chkI sc it tx ix && chkC (relS scope sc) cd fx && chkE (relS scope sc) false elt y
    | _ => false
def chkO (sc : Scope) (c : Option CE) (e : Option PySem.Expr) : Bool := match c with
  | none => match e with
    | none => true
    | _ => false
  | some c => match e with
    | some e => chkE sc false c e
    | _ => false
def chkC (sc : Scope) (c : Option CE) (e : List PySem.Expr) : Bool := match c with
  | none => match e with
    | [] => true
    | _ => false
  | some c => match e with
    | [e] => chkE sc true c e
    | _ => false
def chkEs (sc : Scope) (cs : CEs) (es : List PySem.Expr) : Bool := match cs with
  | .nil => es.isEmpty
  | .cons c r => match es with
    | e :: es => notStar e && chkE sc false c e && chkEs sc r es
    | [] => false
  | .star c r => match es with
    | .Starred e _ :: es => chkE sc false c e && chkEs sc r es
    | _ => false
def chkB (sc : Scope) (k : Bool) (cs : CEs) (es : List PySem.Expr) : Bool := match cs with
  | .nil => false
  | .cons c .nil => match es with
    | [e] => chkE sc k c e
    | _ => false
  | .cons c r => match es with
    | e :: e2 :: es => chkE sc k c e && chkB sc k r (e2 :: es)
    | _ => false
  | .star _ _ => false
def chkI (sc : Scope) (c : CI) (tg : PySem.Expr) (e : PySem.Expr) : Bool := match c with
  | .seq c => chkE sc false c e
  | .rng1 a => match e with
    | .Call (.Name x _) [y] [] _ => decide (x = "range") && T.free.any (fun y => decide (y = x)) && glB sc x && notStar y && chkE sc false a y
    | _ => false
  | .rng2 a b => match e with
    | .Call (.Name x _) [y, z] [] _ => decide (x = "range") && T.free.any (fun y => decide (y = x)) && glB sc x && notStar y && notStar z && chkE sc false a y && chkE sc false b z
    | _ => false
  | .rng3 a b c => match e with
    | .Call (.Name x _) [y, z, u] [] _ => decide (x = "range") && T.free.any (fun y => decide (y = x)) && glB sc x && notStar y && notStar z && notStar u && chkE sc false a y && chkE sc false b z && chkE sc false c u
    | _ => false
  | .enum a => match e with
    | .Call (.Name x _) [y] [] _ => isTup tg && decide (x = "enumerate") && T.free.any (fun y => decide (y = x)) && glB sc x && notStar y && chkE sc false a y
    | _ => false
  | .zip a b => match e with
    | .Call (.Name x _) [y, z] [] _ => isTup tg && decide (x = "zip") && T.free.any (fun y => decide (y = x)) && glB sc x && notStar y && notStar z && chkE sc false a y && chkE sc false b z
    | _ => false
  | .zip3 a b c => match e with
    | .Call (.Name x _) [y, z, u] [] _ => isTup tg && decide (x = "zip") && T.free.any (fun y => decide (y = x)) && glB sc x && notStar y && notStar z && notStar u && chkE sc false a y && chkE sc false b z && chkE sc false c u
    | _ => false
end
end
end DI
set_option maxHeartbeats 4000000
/-! # DI: what the test says of expressions -/
namespace DI
open PySem PySem.Spec L2

theorem and3 {a b c : Bool} (h : (a && b && c) = true) : a = true ∧ b = true ∧ c = true := by
  simp only [Bool.and_eq_true] at h; exact ⟨h.1.1, h.1.2, h.2⟩
section
variable {T : Tab} {G : Gd} {Γ : Fns} {N : List Str} {sc : Scope} {fb : Str → Bool} {X : Cx}
theorem Good.gl (g : Good G Γ N sc fb X) {x : Str} (h : glB sc x = true) : Gl X x := by
  show X.env.scope.names.lookup x = _
  rw [g.hs]
  exact of_decide_eq_true h
theorem Good.vis (g : Good G Γ N sc fb X) {x : Str} (h : visB sc x = true) : Vis X.env.scope x := by
  rw [g.hs]
  exact vis_of h
theorem Good.free (g : Good G Γ N sc fb X) (tok : TabOk T G) {x : Str} (h : T.free.any (fun y => decide (y = x)) = true) : X.mg x = none := by
  obtain ⟨y, hy, e⟩ := List.any_eq_true.mp h
  have e := of_decide_eq_true e
  subst e
  rw [g.hmg]
  exact tok.free y hy
theorem Good.ix (g : Good G Γ N sc fb X) {i : Nat} {x : Str} (h : decide (N[i]? = some x) = true) : X.N[i]? = some x := by
  rw [g.hN]
  exact of_decide_eq_true h
theorem Good.blk (g : Good G Γ N sc fb X) (tok : TabOk T G) {s : Shared} {H : Hp} {scope : Scope} {cl : List (Str × Addr)} {C : Addr} {fp : List Addr} (hl : (!decide (T.lns = some (relS scope sc).names)) = true) :
    Good G Γ N (relS scope sc) (fun x => scope.names.lookup x == some .cell) (X.blk s H scope (compEnvC scope cl C X.env) fp) :=
  ⟨g.hK, g.hmg, g.hP, g.hN, g.nd, by show relS scope X.env.scope = _; rw [g.hs], g.calm, g.gds, g.un, fun x h => h, let ⟨k, h1, h2, _⟩ := g.fns; ⟨k, h1, h2, fun c P q ns e z => by
    have e := tok.lam c P q ns e
    rw [z] at e
    simp [e] at hl⟩⟩
theorem Good.blkOk (g : Good G Γ N sc fb X) {scope : Scope} {own : List (Str × Nat)} (h : blkC N sc scope own = true) : BlkOk X.N X.env.scope scope own := by
  rw [g.hN, g.hs]
  exact blkOk_by h
mutual
theorem chkT_ok : ∀ (t : CT) (e : PySem.Expr), chkT N sc fb t e = true → Good G Γ N sc fb X → PG X e (LG G t)
  | .name i, e, h, g => by
    unfold chkT at h
    split at h
    · rename_i x p
      simp only [Bool.and_eq_true, Bool.or_eq_true] at h
      obtain ⟨⟨h1, h2⟩, h3⟩ := h
      refine sg_name (g.hN ▸ g.nd) (g.ix h1) (by rw [g.hs]; exact loc_of h2) ?_
      rcases h3 with h3 | h3
      · exact .inl (g.st x h3)
      · exact .inr (by rw [g.hs]; exact of_decide_eq_true h3)
    · cases h
  | .tup ts, e, h, g => by
    unfold chkT at h
    split at h
    · rename_i es k p
      simp only [Bool.and_eq_true, decide_eq_true_eq] at h
      obtain ⟨⟨h1, h2⟩, h3⟩ := h
      exact sg_tup g.hK g.calm h2 h1 (chkTs_ok ts es h3 g)
    · cases h
theorem chkTs_ok : ∀ (ts : List CT) (es : List PySem.Expr), chkTs N sc fb ts es = true → Good G Γ N sc fb X → PGs X es (LGs G ts)
  | [], es, h, g => by
    unfold chkTs at h
    have e : es = [] := by simpa using h
    subst e
    exact sg_nil
  | t :: ts, es, h, g => by
    unfold chkTs at h
    split at h
    · rename_i e es
      simp only [Bool.and_eq_true] at h
      exact sg_cons h.1.1 (chkT_ok t e h.1.2 g) (chkTs_ok ts es h.2 g)
    · cases h
end
theorem ev_ife {T : Tab} {Γ : Fns} {c a b : CE} : (fun sp M => (evTr (ev T Γ c sp M)).bind fun k M1 => if k = true then ev T Γ a sp M1 else ev T Γ b sp M1) = ev T Γ (.ife c a b) := by
  funext sp M
  simp only [ev, evTr]
  cases ev T Γ c sp M with
  | ok p M1 =>
    cases p with
    | bl k => cases k <;> rfl
    | _ => rfl
  | exc x M1 => rfl
  | bad => rfl
theorem ev_callV {T : Tab} {Γ : Fns} {i : Nat} {es : CEs} : (fun sp M => (ev T Γ (.var i) sp M).bind fun v M0 => match v with | .fn f => (evs T Γ es sp M0).bind fun ps M1 => Γ f ps M1 | _ => .bad) = ev T Γ (.callV i es) := by
  funext sp M
  simp only [ev]
  cases sp[i]? with
  | none => rfl
  | some o =>
    cases o with
    | none => rfl
    | some p => cases p <;> rfl
theorem evAnd1 {T : Tab} {Γ : Fns} {e : CE} : evAnd T Γ (.cons e .nil) = ev T Γ e := by
  funext sp M; simp only [evAnd]
theorem evOr1 {T : Tab} {Γ : Fns} {e : CE} : evOr T Γ (.cons e .nil) = ev T Γ e := by
  funext sp M; simp only [evOr]
theorem evs0 {T : Tab} {Γ : Fns} {es : CEs} {sc : Scope} (h : chkEs T N sc es [] = true) : ∀ sp M, evs T Γ es sp M = .ok [] M := by
  cases es with
  | nil => intro sp M; simp only [evs]
  | cons c r => unfold chkEs at h; cases h
  | star c r => unfold chkEs at h; cases h
end
end DI
set_option maxHeartbeats 4000000
/-! # DI: except suites -/
namespace DI
open PySem PySem.Spec L2
section
variable {T : Tab} {G : Gd} {Γ : Fns} {W : WX} {X : Cx} {pos : Pos} {e : PySem.Expr}
/-! ### suites -/
theorem SRep.unset {M : Store} {ι : List Addr} {H : Hp} {sp : Sl} {σ : St} (s : SRep G M ι H sp σ) (i : Nat) {w : Option V} : SRep G M ι H (sp.set i none) (σ.set i w) := by
  refine ⟨by simp [s.len], fun j q h => ?_⟩
  by_cases hj : i = j
  · subst hj
    by_cases hi : i < sp.length
    · rw [List.getElem?_set_self hi] at h
      cases h
    · rw [List.getElem?_eq_none (by simpa using hi)] at h
      cases h
  · rw [List.getElem?_set_ne hj] at h
    obtain ⟨v, h1, h2⟩ := s.at_ j q h
    exact ⟨v, by rw [List.getElem?_set_ne hj]; exact h1, h2⟩
theorem XRep.ext {M M1 : Store} {ι ι1 : List Addr} {H H1 : Hp} {x : Exc} {cv : Value} {d : Option Addr} (m : MRel G M ι H) (e : Ext M ι H M1 ι1 H1) (r : XRep G ι H (Own M ι) x cv d) : XRep G ι1 H1 (Own M1 ι1) x cv d := by
  obtain ⟨nm, fn, C, h1, h2, h3, h4⟩ := r
  refine ⟨nm, fn, C, h1, h2, h3, fun i p hp => ?_⟩
  obtain ⟨f, dd, fvs, v, q1, q2, q3, q4, q5⟩ := h4 i p hp
  have hno : ¬ Own M ι dd := fun z => by
    obtain ⟨n, o, z1, z2⟩ := z
    obtain ⟨a, z3, z4⟩ := m.obj n o z1
    rw [z2] at z3
    cases z3
    cases o with
    | lst ps => obtain ⟨vs, z5, _⟩ := z4; rw [q3] at z5; cases z5
    | ins c fs => obtain ⟨_, _, _, _, _, _, _, z5, _⟩ := z4; rw [q3] at z5; cases z5
    | dct kvs => obtain ⟨vs, z5, _⟩ := z4; rw [q3] at z5; cases z5
  exact ⟨f, dd, fvs, v, q1, q2, (e.keep dd _ q3 nofun hno).1, q4, q5.ext e⟩
/-- a suite's context: its names -/
structure HCx (G : Gd) (X : Cx) (fs : List Str) (nm : Option Str) (x : Exc) (j : Option Nat) : Prop where
  hK : X.K = G.K
  nms : ∀ y, nm = some y → ∃ i xn C, j = some i ∧ X.N[i]? = some y ∧ Vis X.env.scope y ∧ G.cnm x.cls = some (xn, fs) ∧ G.mg xn = some (.ref C) ∧ XfC G.K C ∧ ∀ f ∈ fs, PySem.W.findIn G.K (.ref C) f = some none
/-- the reading of a suite's expression -/
def LH (G : Gd) (x : Exc) (a : Addr) (cls : Value) (d : Option Addr) (j : Option Nat) (c : Option PV) : TE := fun σ H Q => ∃ M ι sp, MRel G M ι H ∧ SRep G M ι H sp σ ∧ (j ≠ none → XRep G ι H (Own M ι) x cls d) ∧ (∀ i, j = some i → σ[i]? = some (some (V.ref a))) ∧ PostE G W0 σ M ι H Q (.ofO c M)
def LHs (G : Gd) (x : Exc) (a : Addr) (cls : Value) (d : Option Addr) (j : Option Nat) (c : Option (List PV)) : TA := fun σ H Q => ∃ M ι sp, MRel G M ι H ∧ SRep G M ι H sp σ ∧ (j ≠ none → XRep G ι H (Own M ι) x cls d) ∧ (∀ i, j = some i → σ[i]? = some (some (V.ref a))) ∧ PostA G W0 σ M ι H Q (.ofO c M)
theorem lh_const {Y : Cx} {k : Const} {n : Nat} {v : V} {p : PV} {x : Exc} {a : Addr} {cls : Value} {d : Option Addr} {j : Option Nat} (h0 : PE Y (.Constant k n pos) (tC v)) (hr : ∀ G ι H O, Rp G ι H O p v) : PE Y (.Constant k n pos) (LH G x a cls d j (some p)) :=
  h0.w fun σ H Q h => by
    obtain ⟨M, ι, sp, m, s, _, _, post⟩ := h
    exact post ι H v m .refl (hr _ _ _ _)
section
variable {fs : List Str} {nm : Option Str} {x : Exc} {j : Option Nat} {a : Addr} {oe : Obj} {cls : Value} {d : Option Addr} {pn : List (Addr × Obj)}
theorem chkHEs_len : ∀ (hs : List HE) (es : List PySem.Expr) (ps : List PV), chkHEs fs nm hs es = true → evHs x hs = some ps → ps.length = es.length
  | [], es, ps, h, e => by
    unfold chkHEs at h
    have e' : es = [] := by simpa using h
    subst e'
    simp only [evHs] at e
    cases e
    rfl
  | h0 :: hs, es, ps, h, e => by
    unfold chkHEs at h
    split at h
    · rename_i e0 es
      obtain ⟨h1, h2, h3⟩ := and3 h
      simp only [evHs] at e
      cases e1 : evH x h0 with
      | none => rw [e1] at e; cases e
      | some p =>
        cases e2 : evHs x hs with
        | none => rw [e1, e2] at e; cases e
        | some qs =>
          rw [e1, e2] at e
          cases e
          simp [chkHEs_len hs es qs h3 e2]
    · cases h
mutual
theorem chkHE_ok (hx : HCx G X fs nm x j) (hz : Zc cls d oe) (hf : ∃ vs, oe.data = .fields vs) : ∀ (h : HE) (e : PySem.Expr), chkHE fs nm h e = true → PE (X.suite a ((a, oe) :: pn)) e (LH G x a cls d j (evH x h))
  | .non, e, h => by
    unfold chkHE at h
    split at h
    · simp only [evH]
      exact lh_const pe_non (fun _ _ _ _ => .non)
    · cases h
  | .bl b, e, h => by
    unfold chkHE at h
    split at h
    · have h := of_decide_eq_true h
      subst h
      simp only [evH]
      exact lh_const pe_bl (fun _ _ _ _ => .bl _)
    · cases h
  | .int i, e, h => by
    unfold chkHE at h
    split at h
    · have h := of_decide_eq_true h
      subst h
      simp only [evH]
      exact lh_const pe_int (fun _ _ _ _ => .int _)
    · cases h
  | .str s, e, h => by
    unfold chkHE at h
    split at h
    · have h := of_decide_eq_true h
      subst h
      simp only [evH]
      exact lh_const pe_str (fun _ _ _ _ => .str _)
    · cases h
  | .fld i, e, h => by
    unfold chkHE at h
    split at h
    · rename_i y p1 f p2
      simp only [Bool.and_eq_true, decide_eq_true_eq] at h
      obtain ⟨⟨h1, h2⟩, h3⟩ := h
      obtain ⟨i0, xn, C, hj, hN, hv, hcn, hmg, hxf, hno⟩ := hx.nms y h1
      refine (pe_xf (X := X) (C := C) (cls := cls) (d := d) (by rw [hx.hK]; exact hxf) (by rw [hx.hK]; exact hno f (List.mem_of_getElem? h2)) hz hf (pe_var (X := X.suite a ((a, oe) :: pn)) (i := i0) hN hv (dbg1 h3) (dbg2 h3))).w fun σ H Q hh => ?_
      obtain ⟨M, ι, sp, m, s, xr, sl, post⟩ := hh
      refine ⟨V.ref a, sl i0 hj, rfl, ?_⟩
      obtain ⟨nm', fn, C', q1, q2, q3, q4⟩ := xr (by rw [hj]; simp)
      rw [hcn] at q1
      cases q1
      rw [hmg] at q2
      cases q2
      refine ⟨q3, ?_⟩
      simp only [evH] at post
      cases ep : x.fs[i]? with
      | none => rw [ep] at post; exact post.elim
      | some p =>
        rw [ep] at post
        obtain ⟨f', dd, fvs, v, w1, w2, w3, w4, w5⟩ := q4 i p ep
        rw [h2] at w1
        cases w1
        exact ⟨dd, fvs, v, w2, w3, w4, post ι H v m .refl w5⟩
    · cases h
  | .tup hs, e, h => by
    unfold chkHE at h
    split at h
    · rename_i es k p
      rw [Bool.and_eq_true] at h
      refine (pe_tup (chkHEs_ok hx hz hf hs es h.2)).w fun σ H Q hh => ?_
      obtain ⟨M, ι, sp, m, s, xr, sl, post⟩ := hh
      refine ⟨M, ι, sp, m, s, xr, sl, ?_⟩
      simp only [evH] at post
      cases e2 : evHs x hs with
      | none => rw [e2] at post; exact post.elim
      | some ps =>
        rw [e2] at post
        have hl : ps.length ≤ sizeLine := by
          have := chkHEs_len hs es ps h.2 e2
          have := of_decide_eq_true h.1
          have : 100 ≤ sizeLine := by decide
          omega
        intro ι1 H1 vs m1 e1 r1
        exact ⟨by rw [← r1.length]; exact hl, fun q hq => post ι1 _ _ (m1.new hq) (e1.trans (Ext.new hq)) (m1.newRp hq hl r1)⟩
    · cases h
theorem chkHEs_ok (hx : HCx G X fs nm x j) (hz : Zc cls d oe) (hf : ∃ vs, oe.data = .fields vs) : ∀ (hs : List HE) (es : List PySem.Expr), chkHEs fs nm hs es = true → PA (X.suite a ((a, oe) :: pn)) es (LHs G x a cls d j (evHs x hs))
  | [], es, h => by
    unfold chkHEs at h
    have e : es = [] := by simpa using h
    subst e
    simp only [evHs]
    refine pa_nil.w fun σ H Q hh => ?_
    obtain ⟨M, ι, sp, m, s, xr, sl, post⟩ := hh
    exact post ι H [] m .refl .nil
  | h0 :: hs, es, h => by
    unfold chkHEs at h
    split at h
    · obtain ⟨h1, h2, h3⟩ := and3 h
      refine (pa_cons (chkHE_ok hx hz hf h0 _ h2) (chkHEs_ok hx hz hf hs _ h3) (star_cons h1)).w fun σ H Q hh => ?_
      obtain ⟨M, ι, sp, m, s, xr, sl, post⟩ := hh
      refine ⟨M, ι, sp, m, s, xr, sl, ?_⟩
      simp only [evHs] at post
      cases e1 : evH x h0 with
      | none => rw [e1] at post; exact post.elim
      | some p =>
        cases e2 : evHs x hs with
        | none => rw [e1, e2] at post; exact post.elim
        | some ps =>
          rw [e1, e2] at post
          intro ι1 H1 v m1 e3 r1
          refine ⟨M, ι1, sp, m1, s.ext e3, fun z => (xr z).ext m e3, sl, ?_⟩
          intro ι2 H2 vs m2 e4 r2
          exact post ι2 H2 _ m2 (e3.trans e4) (.cons (r1.ext e4) r2)
    · cases h
end
/-- the reading of a suite -/
def LHS (G : Gd) (x : Exc) (a : Addr) (cls : Value) (d : Option Addr) (j : Option Nat) (su : HS) : TS := fun D σ H => ∃ M ι sp, MRel G M ι H ∧ SRep G M ι H sp σ ∧ (j ≠ none → XRep G ι H (Own M ι) x cls d) ∧ (∀ i, j = some i → σ[i]? = some (some (V.ref a))) ∧ PostS G W0 D M ι H (runS x su sp M)
theorem chkHS_ok (hx : HCx G X fs nm x j) (hz : Zc cls d oe) (hf : ∃ vs, oe.data = .fields vs) (h : HS) (b : List PySem.Stmt) (hh : chkHS fs nm h b = true) : PSs (X.suite a ((a, oe) :: pn)) b (LHS G x a cls d j h) := by
  unfold chkHS at hh
  split at hh
  · split at hh
    · refine pss_one ((ps_ret (chkHE_ok hx hz hf _ _ hh)).w fun D σ H hq => ?_)
      obtain ⟨M, ι, sp, m, s, xr, sl, post⟩ := hq
      refine ⟨M, ι, sp, m, s, xr, sl, ?_⟩
      simp only [runS] at post
      split at post
      · rename_i p hp
        rw [hp]
        exact post
      · exact post.elim
    · cases hh
  · cases hh
  · split at hh
    · refine pss_one (ps_continue.w fun D σ H hq => ?_)
      obtain ⟨M, ι, sp, m, s, xr, sl, post⟩ := hq
      exact post ι H σ m .refl s
    · cases hh
  · split at hh
    · refine pss_one (ps_pass.w fun D σ H hq => ?_)
      obtain ⟨M, ι, sp, m, s, xr, sl, post⟩ := hq
      exact post ι H σ m .refl s
    · cases hh
end
/-- what the layer's clauses are -/
def hcTs (G : Gd) (h : HC) : Addr → Value → Option Addr → TS := fun a cls d D σ H => ∃ x : Exc, (h.nm ≠ none → x.cls = h.c) ∧ LHS G x a cls d h.nm h.su D σ H
theorem PostS.w0 {D : Ends} {M : Store} {ι : List Addr} {H : Hp} {Wo : WX} {x : Exc} {su : HS} {sp : Sl} (h : PostS G Wo D M ι H (runS x su sp M)) {fs : List Str} {nm : Option Str} {b : List PySem.Stmt} (hk : chkHS fs nm su b = true) : PostS G W0 D M ι H (runS x su sp M) := by
  cases su with
  | ret e =>
    simp only [runS] at h ⊢
    split at h
    · exact h
    · exact h.elim
  | raise c => simp [chkHS] at hk
  | cont => exact h
  | pass => exact h
theorem exm_of (tok : TabOk T G) {N : List Str} {sc : Scope} {fb : Str → Bool} (g : Good G Γ N sc fb X) {x : Exc} {c : Nat} {y : Str} {fs : List Str} {C : Addr} {t : Bool} {cv : Value} {d : Option Addr} {ι : List Addr} {H : Hp} {O : Addr → Prop} (r : XRep G ι H O x cv d) (n1 : G.cnm c = some (y, fs)) (n2 : G.mg y = some (.ref C)) (he : excM T.exm x.cls c = some t) :
    PySem.W.exmOne X.K cv (.ref C) = some t := by
  obtain ⟨nm, fn, C0, q1, q2, q3, q4⟩ := r
  unfold excM at he
  split at he
  · rename_i z1 z2 b0 hf
    cases he
    have hm := List.mem_of_find?_eq_some hf
    have hp := List.find?_some hf
    simp only [Bool.and_eq_true, beq_iff_eq] at hp
    obtain ⟨rfl, rfl⟩ := hp
    rw [g.hK, q3]
    exact tok.exm _ _ _ hm _ _ _ _ _ _ q1 n1 q2 n2
  · cases he
theorem exm_of1 (tok : TabOk T G) {N : List Str} {sc : Scope} {fb : Str → Bool} (g : Good G Γ N sc fb X) {x : Exc} {c : Nat} {c2 : Option Nat} {y : Str} {fs : List Str} {C : Addr} {t : Bool} {cv : Value} {d : Option Addr} {ι : List Addr} {H : Hp} {O : Addr → Prop} (r : XRep G ι H O x cv d) (n1 : G.cnm c = some (y, fs)) (n2 : G.mg y = some (.ref C)) (hc : c2 = none) (he : excM2 T.exm x.cls c c2 = some t) :
    exmC X.K cv [.ref C] = some t := by
  subst hc
  exact exm_of tok g r n1 n2 he
theorem exm_of2 (tok : TabOk T G) {N : List Str} {sc : Scope} {fb : Str → Bool} (g : Good G Γ N sc fb X) {x : Exc} {c e : Nat} {y y2 : Str} {fs fs2 : List Str} {C C2 : Addr} {t : Bool} {cv : Value} {d : Option Addr} {ι : List Addr} {H : Hp} {O : Addr → Prop} (r : XRep G ι H O x cv d) (n1 : G.cnm c = some (y, fs)) (n2 : G.mg y = some (.ref C)) (k1 : G.cnm e = some (y2, fs2)) (k2 : G.mg y2 = some (.ref C2)) (he : excM2 T.exm x.cls c (some e) = some t) :
    exmC X.K cv [.ref C, .ref C2] = some t := by
  simp only [excM2] at he
  split at he
  · rename_i a b h1 h2
    cases he
    have q1 := exm_of tok g r n1 n2 h1
    have q2 := exm_of tok g r k1 k2 h2
    simp only [exmC, PySem.W.exmAny, q1, q2, Bool.or_false]
  · cases he
theorem chkHs_ok (tok : TabOk T G) {N : List Str} {sc : Scope} {fb : Str → Bool} (g : Good G Γ N sc fb X) : ∀ (hs : List HC) (es : List ExceptHandler), chkHs T N sc hs es = true →
    ∃ l : List Clause, HdsA X es l ∧ ∀ (Wout : L2.WX) (D : Ends) (x : Exc) (M : Store) (ι : List Addr) (H : Hp) (sp : Sl) (σ : St) (cv : Value) (d : Option Addr), MRel G M ι H → SRep G M ι H sp σ → XRep G ι H (Own M ι) x cv d →
      PostS G (.two Wout) D M ι H (runH T.exm x sp M hs) → wAny X.K Wout D l cv d σ H
  | [], [], _ => ⟨[], .nil, fun Wout D x M ι H sp σ cv d m s r post => post ι H σ cv d m .refl s r⟩
  | [], _ :: _, h => by simp [chkHs] at h
  | _ :: _, [], h => by simp [chkHs] at h
  | h :: hs, e :: es, hh => by
    simp only [chkHs, Bool.and_eq_true] at hh
    obtain ⟨l, hl, ih⟩ := chkHs_ok tok g hs es hh.2
    have h1 := hh.1
    unfold chkH at h1
    split at h1
    · rename_i x p x2 p2 k p3 b₀ b p4
      simp only [Bool.and_eq_true] at h1
      obtain ⟨⟨⟨⟨⟨⟨k1, k2⟩, k3⟩, k4⟩, k6⟩, k7⟩, k5⟩ := h1
      have k1 := of_decide_eq_true k1
      split at k2
      · rename_i c2 hc2
        rw [Bool.and_eq_true] at k2
        obtain ⟨k2, k8⟩ := k2
        split at k2
        · rename_i y fs hy
          have k2 := of_decide_eq_true k2
          subst k2
          split at k8
          · rename_i y2 fs2 hy2
            have k8 := of_decide_eq_true k8
            subst k8
            obtain ⟨n1, C, n2⟩ := tok.cnm _ _ _ hy
            obtain ⟨n3, C2, n4⟩ := tok.cnm _ _ _ hy2
            refine ⟨([.ref C, .ref C2], none, hcTs G h) :: l, .tup ⟨g.gl k3, dbg1 k4, .inl (by rw [g.hmg]; exact n2)⟩ ⟨g.gl k6, dbg1 k7, .inl (by rw [g.hmg]; exact n4)⟩ (fun a oe cls d pn hz hf => ⟨fun pins s σ H D I q => ?_⟩) hl, ?_⟩
            · obtain ⟨x', _, q⟩ := q
              exact (chkHS_ok (j := h.nm) ⟨g.hK, fun y hy => by cases hy⟩ hz hf h.su _ k5).run pins s σ H D I q
            · intro Wout D x0 M ι H sp σ cv d m s r post
              simp only [runH, hc2] at post
              split at post
              · rename_i he
                refine ⟨true, exm_of2 tok g r n1 n2 n3 n4 he, fun _ a ha => ?_, fun z => nomatch z⟩
                rw [k1] at post
                dsimp only at post
                refine ⟨⟨0, [], x0.hot⟩, fun z => absurd k1 z, M, ι, sp, m, s, fun z => absurd k1 z, fun i hi => (by rw [k1] at hi; cases hi), ?_⟩
                show PostS G W0 (endsOf none D) M ι H _
                exact post.w0 k5
              · rename_i he
                exact ⟨false, exm_of2 tok g r n1 n2 n3 n4 he, fun z => (nomatch z), fun _ => ih Wout D x0 M ι H sp σ cv d m s r post⟩
              · exact post.elim
          · cases k8
        · cases k2
      · cases k2
    · rename_i x p b₀ b p2
      simp only [Bool.and_eq_true] at h1
      obtain ⟨⟨⟨⟨⟨k0, k1⟩, k2⟩, k3⟩, k4⟩, k5⟩ := h1
      have k0 := of_decide_eq_true k0
      have k1 := of_decide_eq_true k1
      split at k2
      · rename_i y fs hy
        have k2 := of_decide_eq_true k2
        subst k2
        obtain ⟨n1, C, n2⟩ := tok.cnm _ _ _ hy
        refine ⟨([.ref C], none, hcTs G h) :: l, .bare ⟨g.gl k3, dbg1 k4, .inl (by rw [g.hmg]; exact n2)⟩ (fun a oe cls d pn hz hf => ⟨fun pins s σ H D I q => ?_⟩) hl, ?_⟩
        · obtain ⟨x', _, q⟩ := q
          exact (chkHS_ok (j := h.nm) ⟨g.hK, fun y hy => by cases hy⟩ hz hf h.su _ k5).run pins s σ H D I q
        · intro Wout D x0 M ι H sp σ cv d m s r post
          simp only [runH] at post
          split at post
          · rename_i he
            refine ⟨true, exm_of1 tok g r n1 n2 k0 he, fun _ a ha => ?_, fun z => nomatch z⟩
            rw [k1] at post
            dsimp only at post
            refine ⟨⟨0, [], x0.hot⟩, fun z => absurd k1 z, M, ι, sp, m, s, fun z => absurd k1 z, fun i hi => (by rw [k1] at hi; cases hi), ?_⟩
            have hE : endsOf h.nm D = D := by rw [k1]; rfl
            show PostS G W0 (endsOf none D) M ι H _
            exact post.w0 k5
          · rename_i he
            exact ⟨false, exm_of1 tok g r n1 n2 k0 he, fun z => (nomatch z), fun _ => ih Wout D x0 M ι H sp σ cv d m s r post⟩
          · exact post.elim
      · cases k2
    · rename_i x p n b₀ b p2
      simp only [Bool.and_eq_true] at h1
      obtain ⟨⟨⟨⟨⟨⟨⟨k0, k1⟩, k2⟩, k3⟩, k4⟩, k5⟩, k6⟩, k7⟩ := h1
      have k0 := of_decide_eq_true k0
      split at k1
      · rename_i i hi
        have k1 := of_decide_eq_true k1
        have k2 := of_decide_eq_true k2
        split at k5
        · rename_i y fs hy
          rw [Bool.and_eq_true] at k5
          obtain ⟨k5, k8⟩ := k5
          have k5 := of_decide_eq_true k5
          subst k5
          obtain ⟨dd, hdd, edd⟩ := List.any_eq_true.mp k3
          have edd := of_decide_eq_true edd
          subst edd
          obtain ⟨f1, f2, rfl, C, fI, fd, nps, w1, w2, w3, w4, w5, w6, w7, w8, w9, w10⟩ := tok.ex2 _ hdd _ _ hy
          have n1 := (tok.cnm _ _ _ hy).1
          have hvis : X.env.kindOf n = some .local := by
            show X.env.scope.names.lookup n = _
            rw [g.hs]
            exact k2
          refine ⟨([.ref C], some i, hcTs G h) :: l, .named ⟨g.gl k6, dbg1 k7, .inl (by rw [g.hmg]; exact w1)⟩ (by rw [g.hN]; exact k1) hvis (fun a oe cls d pn hz hf => ⟨fun pins s σ H D I q => ?_⟩) hl, ?_⟩
          · obtain ⟨x', hc', q⟩ := q
            refine (chkHS_ok (j := h.nm) ⟨g.hK, fun y hy' => ?_⟩ hz hf h.su _ k8).run pins s σ H D I q
            cases hy'
            refine ⟨i, x, C, hi, by rw [g.hN]; exact k1, .inl hvis, by rw [hc' (by rw [hi]; simp)]; exact n1, w1, w4, fun f hf' => ?_⟩
            simp only [List.mem_cons, List.not_mem_nil, or_false] at hf'
            rcases hf' with rfl | rfl
            · exact w5
            · exact w6
          · intro Wout D x0 M ι H sp σ cv d m s r post
            simp only [runH] at post
            split at post
            · rename_i he
              refine ⟨true, exm_of1 tok g r n1 w1 k0 he, fun _ a ha => ?_, fun z => nomatch z⟩
              rw [hi] at post
              dsimp only at post
              split at post
              · rename_i hcond
                have hlt : i < σ.length := by rw [← s.len]; exact hcond.2
                refine ⟨x0, fun _ => hcond.1, M, ι, sp.set i none, m, s.unset i, fun _ => r, fun i' hi' => ?_, ?_⟩
                · rw [hi] at hi'
                  cases hi'
                  exact List.getElem?_set_self hlt
                · have post := post.w0 k8
                  unfold isRet at k4
                  cases hsu : h.su with
                  | ret e0 =>
                    rw [hsu] at post
                    simp only [runS] at post ⊢
                    split at post
                    · exact post
                    · exact post.elim
                  | raise c0 => rw [hsu] at k4; cases k4
                  | cont => rw [hsu] at k4; cases k4
                  | pass => rw [hsu] at k4; cases k4
              · exact post.elim
            · rename_i he
              exact ⟨false, exm_of1 tok g r n1 w1 k0 he, fun z => (nomatch z), fun _ => ih Wout D x0 M ι H sp σ cv d m s r post⟩
            · exact post.elim
        · cases k5
      · cases k1
    · cases h1
end
end DI
set_option maxHeartbeats 4000000
/-! # DI: a lambda handed to the def that tries it -/
namespace DI
open PySem PySem.Spec PyProof.Rows L2
section
variable {G : Gd} {M : Store} {ι : List Addr} {H H1 : Hp}
theorem Ext.ofN (e : LamX.ExtN H H1) : Ext M ι H M ι H1 := ⟨fun _ _ h => h, fun a o h t n => ⟨e a o h t, n⟩⟩
theorem MRel.ofN (m : MRel G M ι H) (e : LamX.ExtN H H1) (t : LamX.Tabs G.tbs H1) : MRel G M ι H1 := by
  refine ⟨fun z => ?_, m.len, m.inj, fun n o h => ?_, t⟩
  · obtain ⟨o, h1, h2⟩ := m.sa z
    exact ⟨o, e _ _ h1 h2, h2⟩
  · obtain ⟨a, h1, h2⟩ := m.obj n o h
    obtain ⟨w, hw⟩ := m.own_some ⟨n, o, h, h1⟩
    exact ⟨a, h1, h2.ext (Ext.ofN e) (by rw [hw]; exact e _ _ hw (m.own_kind ⟨n, o, h, h1⟩ w hw).1)⟩
end
theorem two_sz {α : Type} {a b : α} : [a, b].length ≤ sizeLine := by rw [sizeLine_eq]; show 2 ≤ _; omega
theorem noPs_def {a : Arguments} (h : noPs a = true) (env : Env) : defaultsOf a env = ([], []) := by
  obtain ⟨a1, a2, a3, a4, a5, a6, a7⟩ := a
  unfold noPs at h
  simp only [Bool.and_eq_true, List.isEmpty_iff] at h
  obtain ⟨⟨⟨⟨⟨⟨h1, h2⟩, h3⟩, h4⟩, h5⟩, h6⟩, h7⟩ := h
  subst h1 h2 h4 h5 h7
  rfl
theorem noPs_bind {a : Arguments} (h : noPs a = true) (q : Str) (b : PySem.Expr) (sc : Scope) (cl : List (Str × Addr)) (pm cv ctv : Value) : bindArgs (PySem.W.kla_fn "<lambda>" q a b sc cl pm cv ctv) ⟨[], []⟩ = pure [] := by
  obtain ⟨a1, a2, a3, a4, a5, a6, a7⟩ := a
  unfold noPs at h
  simp only [Bool.and_eq_true, List.isEmpty_iff, Option.isNone_iff_eq_none] at h
  obtain ⟨⟨⟨⟨⟨⟨h1, h2⟩, h3⟩, h4⟩, h5⟩, h6⟩, h7⟩ := h
  subst h1 h2 h3 h4 h5 h6 h7
  with_unfolding_all rfl
section
variable {T : Tab} {G : Gd} {Γ : Fns} {N : List Str} {sc lsc : Scope} {fb : Str → Bool} {X : Cx} {W : WX}
/-- the frame of the def that got the lambda -/
abbrev gCx (X : Cx) (Ng : List Str) (x : Str) (sg : Scope) (g : Addr) (cdg : Value) (s : Shared) (H : Hp) : Cx := cxOf C8.CX0 X.prog X.w X.K X.mg X.base Ng x sg g cdg X.A X.stack s H C8.E0
/-- it calls the lambda -/
theorem pe_thunk {pins : List (Addr × Obj)} {σ : L2.St} {H : Hp} {s : Shared} {Ng : List Str} {x n : Str} {sg : Scope} {g f c' : Addr} {cdg pm ctv : Value} {params : Arguments} {b : PySem.Expr} {k : Nat} {pn : List (Addr × Obj)} {xe : Value → Shared → Prop} {Wz : L2.WX} {E : L2.XK} {tb : TE} {p1 p2 : Pos}
    (I : Inv X pins σ H s) (L : LamX.LamS X.env.scope lsc) (hp : noPs params = true)
    (hf : s.heap.get? f = some (PySem.W.kla_obj "<lambda>" (X.env.qual ++ "<lambda>") params b lsc (cloFrom X.env.cells lsc.names []) pm c' ctv)) (hfn : H f = none) (hfr : f ∉ frs X.stack)
    (tk : L2.Takes ((gCx X Ng x sg g cdg s H).tr pn xe) Wz) (hr : Room (k + 1) (X.A.deeper (envOfC x sg s.heap.objs.size g cdg)))
    (hbody : ∀ (sz : Shared) (Hz : Hp), PE (LamX.lamCx X (X.A.deeper (envOfC x sg s.heap.objs.size g cdg)) (envOfC x sg s.heap.objs.size g cdg :: X.stack) sz Hz E lsc f c') b tb)
    (hN : Ng[0]? = some n) (hv : Vis sg n) (hd : dbgB n = true) :
    PE ((gCx X Ng x sg g cdg s H).tr pn xe) (.Call (.Name n p1) [] [] p2)
      (fun σz Hz Q => σz[0]? = some (some (.ref f)) ∧ Hz c' = some (LamX.CodeO c' (X.env.qual ++ "<lambda>")) ∧ (∀ cls d H', E cls d H' → Wz cls d σz H') ∧ tb σ Hz Q) := by
  refine ⟨fun pz sz σz Hz Q J hq => ?_⟩
  obtain ⟨q1, q2, q3, q4⟩ := hq
  have pv := (pe_var (X := (gCx X Ng x sg g cdg s H).tr pn xe) (pos := p1) (i := 0) hN hv (dbg1 hd) (dbg2 hd)).run pz sz σz Hz (fun v H1 => v = .ref f ∧ H1 = Hz) J ⟨.ref f, q1, rfl, rfl⟩
  refine wpAny_Call_Name_kw (thn pv fun u s1 hh => ?_)
  obtain ⟨v, H1, J1, rv, rfl, rfl⟩ := hh
  cases rv
  have old := J1.base.keep f _ hf hfn hfr (List.not_mem_nil)
  have grown : Un (frs X.stack) [] H H1 s.heap s1.heap := J1.base
  obtain ⟨⟨oc, vs, t, w1, w2, w3⟩, _⟩ := J1.hok c' _ q2
  have hx : ∀ e s2, L2.CX X.prog X.w (envOfC x sg s.heap.objs.size g cdg :: X.stack) H1 s1 E e s2 → xe e s2 := fun e s2 c => tk e s2 (XE.of_call J1 (fun cls d H' h => q3 cls d H' h) c)
  have body : codeAny (model X.prog X.w) (X.A.deeper (envOfC x sg s.heap.objs.size g cdg)) (.call (.ref f) ⟨[], []⟩) (CR (L2.CX X.prog X.w) (envOfC x sg s.heap.objs.size g cdg :: X.stack) X.prog X.w H1 s1 Q E) s1 := by
    refine PySem.W.kla_callFunE hr.depth old rfl L.co L.gen rfl ⟨c', oc, vs, t, rfl, w1, w2, w3⟩ ?_
    rw [noPs_bind hp]
    refine wpAny_pure (wpAny_newFunctionEnv (fun y hy => (L.own y hy).2) (fun y hy => absurd hy (List.not_mem_nil)) (fun h1 hns hsb => ⟨J1.nolimit.fresh _ hsb, ?_⟩) L.kind)
    have kp : ∀ b o, s1.heap.get? b = some o → h1.get? b = some o := fun b o e => hsb.extBut b o (Nat.ne_of_lt (Heap.lt_size e)) (Heap.get?_push_of_some _ e)
    have K : Inv (LamX.lamCx X (X.A.deeper (envOfC x sg s.heap.objs.size g cdg)) (envOfC x sg s.heap.objs.size g cdg :: X.stack) s1 H1 E lsc f c') [] σ H1 { s1 with heap := h1, toks := s1.toks + ([] : List (Str × Value)).length } := LamX.lam_start2 I L J1.env0 hr.hd grown hns kp
    show codeAny _ _ (.expr b (LamX.lamEnv X lsc s1.heap.objs.size f c')) _ _
    refine PySem.W.kla_codeExpr (wpAny_mono ((hbody s1 H1).run [] _ σ H1 Q K q4) (fun w s2 hw => ?_) fun _ _ z => z)
    obtain ⟨u, H2, J2, ru, qq⟩ := hw
    exact ⟨u, H2, J2.os, J2.bare, J2.base, J2.hok, ru, qq⟩
  refine PySem.W.callWith_F0 ⟨_, _, _, _, old⟩ (wpAny_call (codeAny_mono body fun r s2 hq => ?_))
  match r, hq with
  | .error e, hq => exact hx e s2 hq
  | .ok (.ret u), hq => exact J1.after hq
  | .ok .next, hq => exact False.elim hq
  | .ok .brk, hq => exact False.elim hq
  | .ok .cont, hq => exact False.elim hq
/-- x(lambda: b) -/
theorem se_heard (tok : TabOk T G) (g : Good G Γ N sc fb X) {h : HrdC} (hm : h ∈ T.hrd) {x : Str} (hx : T.fnm[h.f]? = some x) (hln : T.lns = some sc.names) (hlm : T.lns ≠ some lsc.names) (L : LamX.LamS sc lsc) {params : Arguments} (hp : noPs params = true) (hg : Gl X x) {b : PySem.Expr} {ca : Ev PV} {p lpos pos : Pos}
    (hbody : ∀ (Y : Cx) (E : WX), Good G Γ N lsc (fun _ => false) Y → Takes Y E → PE Y b (LE G E ca)) :
    PE X (.Call (.Name x p) [.Lambda params b lsc lpos] [] pos) (LE G W fun sp M => heardH T h (ca sp M)) := by
  obtain ⟨x', n, st, gA, Ng, hx', hdx, F, hb, S⟩ := tok.hrd h hm
  obtain rfl : x' = x := Option.some.inj (hx'.symm.trans hx)
  obtain ⟨c, P, q, hlam⟩ := tok.lamN _ hln
  obtain ⟨k, hr, hf, hl⟩ := g.fns
  have lo := hl _ _ _ _ hlam rfl
  obtain rfl := lo.qual
  obtain ⟨oc, od, kV, doc, pm, an, cdv, ct, osl, lk, hcd⟩ := F.ex
  obtain ⟨j, kk, p0, p1, p2, p3, p4, p5, hd, hds, hbo, hch⟩ := S.body
  have hLX : LamX.LamS X.env.scope lsc := by rw [g.hs]; exact L
  have tbs : G.tbs = [(P, X.env.qual ++ "<lambda>")] := by unfold Gd.tbs; rw [hlam]
  refine ⟨fun pins s σ H Q I hq => ?_⟩
  obtain ⟨M, ι, sp, m, sr, post⟩ := hq
  have post : PostE G W σ M ι H Q (heardH T h (ca sp M)) := post
  have hT : LamX.Tabs [(P, X.env.qual ++ "<lambda>")] H := tbs ▸ m.tb
  refine wpAny_Call_Name_kw (ld_glob I hg (by rw [g.hmg]; exact F.mgf) ?_ (dbg1 hdx))
  refine PySem.W.callWith_K (h₀ := X.base) I.ok.mod.kin (by rw [g.hK]; exact F.kp) ?_ (by rfl) (by rfl)
  show wpAny _ _ (spliced ((false, eval (.Lambda params b lsc lpos) X.env) :: backTo pos (starEach [] X.env))) _ _ s
  refine Calls.spliced_cons (LamX.lam_make2 (T := [(P, X.env.qual ++ "<lambda>")]) I lo.tab lo.code List.mem_cons_self (fun p hp _ => by rw [List.mem_singleton.mp hp]) hT (noPs_def hp _) (hLX.has I.ok) fun f c' pm' ctv H1 s' I1 eN T1 hfh hfn hfr hco => ?_)
  refine Calls.spliced_nil ⟨I1.kIn, ?_⟩
  have m1 : MRel G M ι H1 := m.ofN eN (by rw [tbs]; exact T1)
  have e1 : Ext M ι H M ι H1 := Ext.ofN eN
  have rc : codeAny (model X.prog X.w) X.A (.call (.ref gA) ⟨[.ref f], []⟩) (CR C8.CX0 X.stack X.prog X.w H1 s' Q C8.E0) s' := by
    refine LamX.run_ofS (N := Ng) (ps := [n]) (us := [.ref f]) (vs := [.ref f]) (k := 4 * k + 5) (by rw [g.hK]; exact lk) (by rw [g.hK]; exact hcd) S.sc lo.room I1.env0 (.of_eq (hb kV doc pm an cdv ct [.ref f] rfl)) (.cons rfl .nil) rfl fun hr' => ?_
    have gd : (X.A.deeper (envOfC x' (dScope st) s'.heap.objs.size gA cdv)).guards = some [] := g.gds
    have gz : Good G Γ Ng (dScope st) (fun _ => true) (gCx X Ng x' (dScope st) gA cdv s' H1).nox :=
      ⟨g.hK, g.hmg, g.hP, rfl, S.sc.nd, rfl, rfl, gd, by have := hr'.un; show (X.A.deeper _).units + 66 < cLine; omega, fun _ _ => rfl, k, ⟨hr'.mono (by omega), gd⟩, hf, fun c1 P1 q1 ns e z => by
        have e := tok.lam c1 P1 q1 ns e
        rw [z] at e
        exact absurd e S.lns⟩
    obtain ⟨l, hl, hw⟩ := chkHs_ok tok gz h.hs (hd :: hds) hch
    have hvn : Vis (dScope st) n := by
      rcases S.sc.par n (by simp) with z | z
      · exact .inl z
      · exact .inr (.inl z)
    rw [hbo]
    refine ⟨_, (pss_one (ps_try_any (X := (gCx X Ng x' (dScope st) gA cdv s' H1).nox) (Wout := fun _ _ _ _ => False)
      (tb := fun Wz D σz Hz => ∃ E : L2.XK, (∀ cls d H', E cls d H' → Wz cls d σz H') ∧ σz[0]? = some (some (.ref f)) ∧ Hz c' = some (LamX.CodeO c' (X.env.qual ++ "<lambda>")) ∧
        LE G (.two fun cls d _ H' => E cls d H') ca σ Hz fun v Hv => ∀ d, Hv d = none → D.rt (.ref d) (upd Hv d (.tup [.str h.told, v])))
      rfl rfl LamX.takes0 S.sc.nd (fun Wz pn xe tkz _ => ?_) hl)).nox, ?_⟩
    · refine ⟨fun pz sz σz Hz D J hh => ?_⟩
      obtain ⟨E, z1, z2, z3, z4⟩ := hh
      have gl : ∀ (sy : Shared) (Hy : Hp), Good G Γ N lsc (fun _ => false) (LamX.lamCx X (X.A.deeper (envOfC x' (dScope st) s'.heap.objs.size gA cdv)) (envOfC x' (dScope st) s'.heap.objs.size gA cdv :: X.stack) sy Hy E lsc f c') := fun sy Hy => by
        have hr2 := (hr'.mono (by omega : 4 * k + 4 + 1 ≤ 4 * k + 5)).deeper (LamX.lamEnv X lsc sy.heap.objs.size f c')
        exact ⟨g.hK, g.hmg, g.hP, g.hN, g.nd, rfl, rfl, gd, by have := hr2.un; show ((X.A.deeper _).deeper _).units + 66 < cLine; omega, fun _ z => (nomatch z), k, ⟨hr2, gd⟩, hf, fun c1 P1 q1 ns e z => by
          have e := tok.lam c1 P1 q1 ns e
          rw [z] at e
          exact absurd e hlm⟩
      have act := pe_thunk (k := 4 * k + 4) (p1 := p1) (p2 := p2) (tb := LE G (.two fun cls d _ H' => E cls d H') ca) I1 hLX hp hfh hfn hfr tkz hr' (fun sy Hy => hbody _ (.two fun cls d _ H' => E cls d H') (gl sy Hy) (.two (L2.takes_of rfl rfl rfl rfl))) S.a0 hvn S.dbg
      refine (pss_one (ps_ret (pos := p4) (pe_tup (x1 := kk) (pos := p3) (pa_cons (pe_str (j := j) (pos := p0)) (pa_cons act pa_nil))))).run pz sz σz Hz D J ?_
      refine ⟨z2, z3, z1, ?_⟩
      obtain ⟨M2, ι2, sp2, b1, b2, b3⟩ := z4
      refine ⟨M2, ι2, sp2, b1, b2, ?_⟩
      cases er : ca sp2 M2 with
      | ok pv M3 =>
        rw [er] at b3
        exact fun ι3 H3 v w1 w2 w3 => ⟨two_sz (a := V.str h.told) (b := v), fun d hd => b3 ι3 H3 v w1 w2 w3 d hd⟩
      | exc xx M3 =>
        rw [er] at b3
        exact b3
      | bad => rw [er] at b3; exact b3
    · refine ⟨fun cls d H' => wAny X.K (fun _ _ _ _ => False) { nx := fun _ H' => Q .non H', rt := Q } l cls d (L2.start Ng [.ref f]) H', fun _ _ _ z => z, ?_, hco, M, ι, sp, m1, sr.ext e1, ?_⟩
      · unfold L2.start
        rfl
      · cases er : ca sp M with
        | ok pv M3 =>
          rw [er] at post
          exact fun ι3 H3 v w1 w2 w3 d hd => post ι3 _ _ (w1.new hd) ((e1.trans w2).trans (Ext.new hd)) (w1.newRp hd two_sz (.cons (.str _) (.cons w3 .nil)))
        | exc xx M3 =>
          rw [er] at post
          intro ι3 H3 cv d w1 w2 w3
          rw [WX.two_at]
          refine hw (fun _ _ _ _ => False) _ xx M3 ι3 H3 (List.replicate h.n none) _ cv d w1 ⟨?_, fun i p hi => ?_⟩ w3 ?_
          · have hlen : Ng.length = h.n := S.n
            have h0 := S.a0
            have : 0 < Ng.length := (List.getElem?_eq_some_iff.mp h0).1
            unfold L2.start
            simp
            omega
          · rw [List.getElem?_replicate] at hi
            split at hi <;> cases hi
          · simp only [heardH] at post
            cases eh : runH T.exm xx (List.replicate h.n none) M3 h.hs with
            | ret pp M4 =>
              rw [eh] at post
              exact fun ι4 H4 v y1 y2 y3 => post ι4 H4 v y1 ((e1.trans w2).trans y2) y3
            | nx _ _ => rw [eh] at post; exact post.elim
            | brk _ _ => rw [eh] at post; exact post.elim
            | cnt _ _ => rw [eh] at post; exact post.elim
            | exc _ _ _ => rw [eh] at post; exact post.elim
            | bad => rw [eh] at post; exact post.elim
        | bad => rw [er] at post; exact post.elim
  refine wpAny_call (codeAny_mono rc fun r s2 hq => ?_)
  match r, hq with
  | .error e, hq => exact (show False from hq).elim
  | .ok (.ret u), hq => exact I1.after hq
  | .ok .next, hq => exact False.elim hq
  | .ok .brk, hq => exact False.elim hq
  | .ok .cont, hq => exact False.elim hq
end
end DI
set_option maxHeartbeats 8000000
/-! # DI: expressions are sound -/
namespace DI
open PySem PySem.Spec L2

/-- code and syntax agree wherever the names stand -/
def OkE (T : Tab) (G : Gd) (Γ : Fns) (N : List Str) (sc : Scope) (k : Bool) (c : CE) (e : PySem.Expr) : Prop :=
  ∀ (fb : Str → Bool) (X : Cx) (W : WX), Good G Γ N sc fb X → Takes X W → PE X e (LE G W (ev T Γ c)) ∧ (k = true → PT X e (LT G W fun sp M => evTr (ev T Γ c sp M)))
section
variable {T : Tab} {G : Gd} {Γ : Fns} {N : List Str}
/-- a value that is no and, or, not, if-else, comparison: a test too -/
theorem okV {sc : Scope} {k : Bool} {c : CE} {e : PySem.Expr} (hp : plainT e = true) (h : ∀ (fb : Str → Bool) (X : Cx) (W : WX), Good G Γ N sc fb X → Takes X W → PE X e (LE G W (ev T Γ c))) : OkE T G Γ N sc k c e :=
  fun fb X W g tk => ⟨h fb X W g tk, fun _ => st_val hp (h fb X W g tk)⟩
theorem okN {sc : Scope} {c : CE} {e : PySem.Expr} (h : ∀ (fb : Str → Bool) (X : Cx) (W : WX), Good G Γ N sc fb X → Takes X W → PE X e (LE G W (ev T Γ c))) : OkE T G Γ N sc false c e :=
  fun fb X W g tk => ⟨h fb X W g tk, fun z => nomatch z⟩
theorem kfalse {k b : Bool} (h : (!k && b) = true) : k = false ∧ b = true := by
  rw [Bool.and_eq_true] at h
  exact ⟨by simpa using h.1, h.2⟩
mutual
theorem chkE_ok (tok : TabOk T G) : ∀ (c : CE) (sc : Scope) (k : Bool) (e : PySem.Expr), chkE T N sc k c e = true → OkE T G Γ N sc k c e
  | .var i, sc, k, e, h => by
    unfold chkE at h
    split at h
    · obtain ⟨h1, h2, h3⟩ := and3 h
      exact okV rfl fun fb X W g tk => se_var (g.ix h1) (g.vis h2) h3
    · cases h
  | .non, sc, k, e, h => by
    unfold chkE at h
    split at h
    · exact okV rfl fun fb X W g tk => se_const pe_non (fun _ _ _ _ => .non) fun sp M => by simp only [ev]
    · cases h
  | .bl b, sc, k, e, h => by
    unfold chkE at h
    split at h
    · have h := of_decide_eq_true h
      subst h
      exact okV rfl fun fb X W g tk => se_const pe_bl (fun _ _ _ _ => .bl _) fun sp M => by simp only [ev]
    · cases h
  | .int i, sc, k, e, h => by
    unfold chkE at h
    split at h
    · have h := of_decide_eq_true h
      subst h
      exact okV rfl fun fb X W g tk => se_const pe_int (fun _ _ _ _ => .int _) fun sp M => by simp only [ev]
    · cases h
  | .str s, sc, k, e, h => by
    unfold chkE at h
    split at h
    · have h := of_decide_eq_true h
      subst h
      exact okV rfl fun fb X W g tk => se_const pe_str (fun _ _ _ _ => .str _) fun sp M => by simp only [ev]
    · cases h
  | .glob j, sc, k, e, h => by
    unfold chkE at h
    split at h
    · rename_i x p
      obtain ⟨h1, h2, h3⟩ := and3 h
      split at h1
      · rename_i y q hy
        have h1 := of_decide_eq_true h1
        subst h1
        obtain ⟨u, v, k1, k2, k3⟩ := tok.cst _ _ _ hy
        exact okV rfl fun fb X W g tk => se_globV (g.gl h2) (by rw [g.hmg]; exact k1) k2 h3 k3 fun sp M => by simp only [ev, hy]
      · cases h1
    · cases h
  | .fn f, sc, k, e, h => by
    unfold chkE at h
    split at h
    · obtain ⟨h1, h2, h3⟩ := and3 h
      obtain ⟨k1, a, k2⟩ := tok.fnm _ _ (of_decide_eq_true h1)
      exact okV rfl fun fb X W g tk => se_globV (v := .ref a) (g.gl h2) (by rw [g.hmg]; exact k2) rfl h3 (fun ι H O => .fn k1 k2) fun sp M => by simp only [ev]
    · cases h
  | .bty n, sc, k, e, h => by
    unfold chkE at h
    split at h
    · rename_i x p
      simp only [Bool.and_eq_true] at h
      obtain ⟨⟨⟨h1, h2⟩, h3⟩, h4⟩ := h
      obtain ⟨q, hq, eq⟩ := List.any_eq_true.mp h1
      have eq := of_decide_eq_true eq
      subst eq
      obtain ⟨b1, b2⟩ := btys_boot _ hq
      exact okV rfl fun fb X W g tk => se_bty (g.gl h3) (g.free tok h2) b1 b2 h4
    · cases h
  | .neg a, sc, k, e, h => by
    unfold chkE at h
    split at h
    · obtain ⟨rfl, h⟩ := kfalse h
      refine okN fun fb X W g tk => ?_
      simp only [ev]
      exact se_neg (chkE_ok tok a sc false _ h fb X W g tk).1
    · cases h
  | .notE a, sc, k, e, h => by
    unfold chkE at h
    split at h
    · intro fb X W g tk
      have ih := chkE_ok tok a sc k _ h fb X W g tk
      simp only [ev]
      exact ⟨se_not ih.1, fun hk => st_not (ih.2 hk)⟩
    · cases h
  | .bin op a b, sc, k, e, h => by
    unfold chkE at h
    split at h
    · obtain ⟨h1, h2, h3⟩ := and3 h
      have h1 := of_decide_eq_true h1
      subst h1
      refine okV rfl fun fb X W g tk => ?_
      simp only [ev]
      exact se_bin g.hK (chkE_ok tok a sc false _ h2 fb X W g tk).1 (chkE_ok tok b sc false _ h3 fb X W g tk).1
    · cases h
  | .cmp op a b, sc, k, e, h => by
    unfold chkE at h
    split at h
    · simp only [Bool.and_eq_true] at h
      obtain ⟨⟨⟨h1, h2⟩, h3⟩, h4⟩ := h
      have h1 := of_decide_eq_true h1
      subst h1
      intro fb X W g tk
      have ia := (chkE_ok tok a sc false _ h3 fb X W g tk).1
      have ib := (chkE_ok tok b sc false _ h4 fb X W g tk).1
      simp only [ev]
      exact ⟨se_cmp g.hK g.un h2 ia ib, fun _ => st_cmp g.hK g.un h2 ia ib⟩
    · cases h
  | .cmp2 op op2 a b c, sc, k, e, h => by
    unfold chkE at h
    split at h
    · simp only [Bool.and_eq_true] at h
      obtain ⟨⟨⟨⟨⟨h1, h2⟩, h3⟩, h4⟩, h5⟩, h6⟩ := h
      have h1 := of_decide_eq_true h1
      have h2 := of_decide_eq_true h2
      subst h1 h2
      intro fb X W g tk
      have ia := (chkE_ok tok a sc false _ h4 fb X W g tk).1
      have ib := (chkE_ok tok b sc false _ h5 fb X W g tk).1
      have ic := (chkE_ok tok c sc false _ h6 fb X W g tk).1
      have hl := Bool.not_eq_true' _ |>.mp h3
      simp only [ev]
      exact ⟨se_cmp2 g.hK g.un ia ib ic hl, fun _ => st_cmp2 g.hK g.un ia ib ic hl⟩
    · cases h
  | .andE es, sc, k, e, h => by
    unfold chkE at h
    split at h
    · intro fb X W g tk
      have ih := chkB_ok tok es sc k _ h fb X W g tk
      simp only [ev]
      exact ⟨(ih _).1.1, fun hk => ((ih _).1.2 hk).pt⟩
    · cases h
  | .orE es, sc, k, e, h => by
    unfold chkE at h
    split at h
    · intro fb X W g tk
      have ih := chkB_ok tok es sc k _ h fb X W g tk
      simp only [ev]
      exact ⟨(ih _).2.1, fun hk => ((ih _).2.2 hk).pt⟩
    · cases h
  | .ife c a b, sc, k, e, h => by
    unfold chkE at h
    split at h
    · simp only [Bool.and_eq_true] at h
      obtain ⟨⟨⟨h1, h2⟩, h3⟩, h4⟩ := h
      have h1 : k = false := by simpa using h1
      subst h1
      refine okN fun fb X W g tk => ?_
      rw [← ev_ife]
      exact se_ife ((chkE_ok tok c sc true _ h2 fb X W g tk).2 rfl) (chkE_ok tok a sc false _ h3 fb X W g tk).1 (chkE_ok tok b sc false _ h4 fb X W g tk).1
    · cases h
  | .tup es, sc, k, e, h => by
    unfold chkE at h
    split at h
    · refine okV rfl fun fb X W g tk => ?_
      simp only [ev]
      exact se_tup (chkEs_ok tok es sc _ h fb X W g tk)
    · cases h
  | .lst es, sc, k, e, h => by
    unfold chkE at h
    split at h
    · refine okV rfl fun fb X W g tk => ?_
      simp only [ev]
      exact se_lst (chkEs_ok tok es sc _ h fb X W g tk)
    · cases h
  | .lstR es, sc, k, e, h => by
    unfold chkE at h
    split at h
    · refine okV rfl fun fb X W g tk => ?_
      simp only [ev]
      exact se_lstR (chkEs_ok tok es sc _ h fb X W g tk)
    · cases h
  | .idx a i, sc, k, e, h => by
    unfold chkE at h
    split at h
    · obtain ⟨h1, h2, h3⟩ := and3 h
      refine okV rfl fun fb X W g tk => ?_
      simp only [ev]
      exact se_idx g.hK h1 (chkE_ok tok a sc false _ h2 fb X W g tk).1 (chkE_ok tok i sc false _ h3 fb X W g tk).1
    · cases h
  | .slc a lo hi, sc, k, e, h => by
    unfold chkE at h
    split at h
    · obtain ⟨h1, h2, h3⟩ := and3 h
      refine okV rfl fun fb X W g tk => ?_
      simp only [ev]
      exact se_slc g.hK (chkE_ok tok a sc false _ h1 fb X W g tk).1 (chkO_ok tok lo sc _ h2 fb X W g tk) (chkO_ok tok hi sc _ h3 fb X W g tk)
    · cases h
  | .call f es, sc, k, e, h => by
    unfold chkE at h
    split at h
    · simp only [Bool.and_eq_true] at h
      obtain ⟨⟨⟨⟨h1, h2⟩, h3⟩, h4⟩, h5⟩ := h
      obtain ⟨k1, a, k2⟩ := tok.fnm _ _ (of_decide_eq_true h1)
      refine okV rfl fun fb X W g tk => ?_
      have hx : ∀ q : Pos, PE X (.Name _ q) (LE G W (ev T Γ (.fn f))) := fun q => se_globV (v := .ref a) (g.gl h2) (by rw [g.hmg]; exact k2) rfl h3 (fun ι H O => .fn k1 k2) fun sp M => by simp only [ev]
      obtain ⟨kk, hr, hf, _⟩ := g.fns
      refine (se_callAny hr tk hf (hx _) (chkEs_ok tok es sc _ h5 fb X W g tk) h4 (fun e0 => by subst e0; exact evs0 h5)).w fun σ H Q hh => ?_
      simp only [ev] at hh ⊢
      exact hh
    · cases h
  | .callV i es, sc, k, e, h => by
    unfold chkE at h
    split at h
    · simp only [Bool.and_eq_true] at h
      obtain ⟨⟨⟨⟨h1, h2⟩, h3⟩, h4⟩, h5⟩ := h
      refine okV rfl fun fb X W g tk => ?_
      have hx : ∀ q : Pos, PE X (.Name _ q) (LE G W (ev T Γ (.var i))) := fun q => se_var (g.ix h1) (g.vis h2) h3
      obtain ⟨kk, hr, hf, _⟩ := g.fns
      rw [← ev_callV]
      exact se_callAny hr tk hf (hx _) (chkEs_ok tok es sc _ h5 fb X W g tk) h4 (fun e0 => by subst e0; exact evs0 h5)
    · cases h
  | .callB b es, sc, k, e, h => by
    unfold chkE at h
    split at h
    · simp only [Bool.and_eq_true] at h
      obtain ⟨⟨⟨⟨h1, h2⟩, h3⟩, h4⟩, h5⟩ := h
      have h1 := of_decide_eq_true h1
      subst h1
      refine okV rfl fun fb X W g tk => ?_
      simp only [ev]
      exact se_callB (pr_bi g.hK g.calm g.gds g.un b) (g.gl h3) (g.free tok h2) h4 (chkEs_ok tok es sc _ h5 fb X W g tk)
    · cases h
  | .meth m o es, sc, k, e, h => by
    unfold chkE at h
    split at h
    · rename_i ob nm ap xs cp
      simp only [Bool.and_eq_true] at h
      obtain ⟨⟨⟨⟨⟨⟨⟨⟨h1, h2⟩, h3⟩, h4⟩, h5⟩, h6⟩, h7⟩, h8⟩, h9⟩ := h
      have h1 := of_decide_eq_true h1
      have h4 := of_decide_eq_true h4
      subst h1
      refine okV rfl fun fb X W g tk => ?_
      have ho := (chkE_ok tok o sc false _ h8 fb X W g tk).1
      have hes := chkEs_ok tok es sc _ h9 fb X W g tk
      simp only [ev]
      cases xs with
      | nil =>
        cases m with
        | pop =>
          refine (se_pop0 h2 h5 ho).w fun σ H Q hh => ?_
          simp only [evs0 h9, Res.bind] at hh ⊢
          exact hh
        | append => simp at h6
        | extend => simp at h6
        | insert => simp at h6
      | cons x xs =>
        have h4' : xs.length < 28 := by simp only [List.length_cons] at h4; omega
        cases m with
        | append => exact se_append h2 h3 h4' h5 ho hes
        | pop =>
          simp only [decide_true, Bool.not_true, Bool.false_or, Bool.and_eq_true, decide_eq_true_eq] at h7
          obtain ⟨z1, z2⟩ := h7
          have z3 : xs = [] := by cases xs with | nil => rfl | cons _ _ => simp at z1
          subst z3
          exact se_bm (m := .pop) PySem.F.slot_list_pop PySem.F.type_list_pop mt_popAt (fun {x vs H Q} hl hh => by
            match vs, hl with
            | [w], _ => exact lm2_popAt hh) (cesLen_ok es _ z2) h2 h3 h4' h5 ho hes
        | extend => exact se_bmA (m := .extend) PySem.F.slot_list_extend PySem.F.type_list_extend mt_extend (fun {x vs H Q} hh => lm2_extend hh) h2 h3 h4' h5 ho hes
        | insert => exact se_bmA (m := .insert) PySem.F.slot_list_insert PySem.F.type_list_insert mt_insert (fun {x vs H Q} hh => lm2_insert hh) h2 h3 h4' h5 ho hes
    · cases h
  | .fld a f, sc, k, e, h => by
    unfold chkE at h
    split at h
    · obtain ⟨h1, h2, h3⟩ := and3 h
      have h1 := of_decide_eq_true h1
      subst h1
      refine okV rfl fun fb X W g tk => ?_
      simp only [ev]
      exact se_fld g.hK tok (base_of h2) (chkE_ok tok a sc false _ h3 fb X W g tk).1
    · cases h
  | .newI c n j es, sc, k, e, h => by
    unfold chkE at h
    split at h
    · simp only [Bool.and_eq_true] at h
      obtain ⟨⟨⟨⟨⟨h1, h2⟩, h3⟩, h4⟩, h5⟩, h6⟩ := h
      split at h1
      · rename_i y fs hy
        rw [Bool.and_eq_true] at h1
        have e1 := of_decide_eq_true h1.1
        have e2 := of_decide_eq_true h1.2
        subst e1 e2
        have h2 := of_decide_eq_true h2
        obtain ⟨x', fs', C, g0, w1, w2, w3, w4, w5, w6, w7⟩ := tok.met j c _ h2
        rw [hy] at w1
        cases w1
        have n1 := (tok.cnm c _ _ hy).1
        obtain ⟨_, _, hnd, hl⟩ := tok.own c w2 _ _ C hy w3
        refine okV rfl fun fb X W g tk => ?_
        obtain ⟨kk, hr, hf, _⟩ := g.fns
        simp only [ev]
        exact se_newI (g.hK ▸ w7 rfl) (hf _ g0 (.inr ⟨c, _, _, _, C, w6, n1, w3, w5.at_⟩)) hr tk (g.gl h3) (by rw [g.hmg]; exact w3) w3 n1 hnd hl (chkEs_ok tok es sc _ h6 fb X W g tk) h5 (fun e0 => by subst e0; exact evs0 h6) (dbg1 h4)
      · cases h1
    · cases h
  | .mcall a m es, sc, k, e, h => by
    unfold chkE at h
    split at h
    · simp only [Bool.and_eq_true] at h
      obtain ⟨⟨⟨⟨⟨⟨h1, h2⟩, h3⟩, h4⟩, h5⟩, h6⟩, h7⟩ := h
      have h1 := of_decide_eq_true h1
      subst h1
      refine okV rfl fun fb X W g tk => ?_
      obtain ⟨kk, hr, hf, _⟩ := g.fns
      simp only [ev]
      exact se_mcall tok g.hK hf hr tk (chkE_ok tok a sc false _ h6 fb X W g tk).1 (chkEs_ok tok es sc _ h7 fb X W g tk) h2 h3 (of_decide_eq_true h4) h5 (fun e0 => by subst e0; exact evs0 h7)
    · cases h
  | .dctN, sc, k, e, h => by
    unfold chkE at h
    split at h
    · refine okV rfl fun fb X W g tk => ?_
      simp only [ev]
      exact se_dctN
    · cases h
  | .getD o i d, sc, k, e, h => by
    unfold chkE at h
    split at h
    · simp only [Bool.and_eq_true] at h
      obtain ⟨⟨⟨⟨⟨⟨⟨h1, h2⟩, h3⟩, h4⟩, h5⟩, h6⟩, h7⟩, h8⟩ := h
      have h1 := of_decide_eq_true h1
      subst h1
      refine okV rfl fun fb X W g tk => ?_
      simp only [ev]
      exact se_getD (by have := g.un; omega) (chkE_ok tok o sc false _ h6 fb X W g tk).1 (chkE_ok tok i sc false _ h7 fb X W g tk).1 (chkE_ok tok d sc false _ h8 fb X W g tk).1 (m2_of h2 h3 h4 h5)
    · cases h
  | .inD ng i o, sc, k, e, h => by
    unfold chkE at h
    split at h
    · simp only [Bool.and_eq_true] at h
      obtain ⟨⟨⟨h1, h2⟩, h3⟩, h4⟩ := h
      have h1 := of_decide_eq_true h1
      subst h1
      intro fb X W g tk
      have ii := (chkE_ok tok i sc false _ h3 fb X W g tk).1
      have io := (chkE_ok tok o sc false _ h4 fb X W g tk).1
      simp only [ev]
      exact ⟨se_inD (by have := g.un; omega) h2 ii io, fun _ => st_inD (by have := g.un; omega) h2 ii io⟩
    · cases h
  | .idxD o i, sc, k, e, h => by
    unfold chkE at h
    split at h
    · obtain ⟨h1, h2, h3⟩ := and3 h
      refine okV rfl fun fb X W g tk => ?_
      simp only [ev]
      exact se_idxD (by have := g.un; omega) (chkE_ok tok o sc false _ h2 fb X W g tk).1 (chkE_ok tok i sc false _ h3 fb X W g tk).1 (noSl_of h1)
    · cases h
  | .frz i, sc, k, e, h => by
    unfold chkE at h
    split at h
    · simp only [Bool.and_eq_true] at h
      obtain ⟨⟨⟨h1, h2⟩, h3⟩, h4⟩ := h
      have h1 : k = false := by simpa using h1
      subst h1
      exact okN fun fb X W g tk => se_frz (g.ix h2) (g.vis h3) h4
    · cases h
  | .sset a, sc, k, e, h => by
    unfold chkE at h
    split at h
    · simp only [Bool.and_eq_true] at h
      obtain ⟨⟨⟨⟨⟨⟨⟨h1, h2⟩, h3⟩, h4⟩, h5⟩, h6⟩, h7⟩, h8⟩ := h
      have h1 := of_decide_eq_true h1
      have h2 := of_decide_eq_true h2
      subst h1 h2
      refine okV rfl fun fb X W g tk => ?_
      simp only [ev]
      exact se_sset g.hK g.calm g.un (g.gl h5) (g.free tok h3) (g.gl h6) (g.free tok h4) h7 (chkE_ok tok a sc false _ h8 fb X W g tk).1
    · cases h
  | .listR a, sc, k, e, h => by
    unfold chkE at h
    split at h
    · simp only [Bool.and_eq_true] at h
      obtain ⟨⟨⟨⟨h1, h2⟩, h3⟩, h4⟩, h5⟩ := h
      have h1 := of_decide_eq_true h1
      subst h1
      refine okV rfl fun fb X W g tk => ?_
      simp only [ev]
      exact se_listR g.hK (g.gl h3) (g.free tok h2) h4 (chkE_ok tok a sc false _ h5 fb X W g tk).1
    · cases h
  | .index o x, sc, k, e, h => by
    unfold chkE at h
    split at h
    · simp only [Bool.and_eq_true] at h
      obtain ⟨⟨⟨⟨⟨h1, h2⟩, h3⟩, h4⟩, h5⟩, h6⟩ := h
      have h1 := of_decide_eq_true h1
      subst h1
      refine okV rfl fun fb X W g tk => ?_
      simp only [ev]
      exact se_index g.hK h2 h3 h4 (chkE_ok tok o sc false _ h5 fb X W g tk).1 (chkE_ok tok x sc false _ h6 fb X W g tk).1
    · cases h
  | .rev a, sc, k, e, h => by
    unfold chkE at h
    split at h
    · refine okV rfl fun fb X W g tk => ?_
      simp only [ev]
      exact se_rev g.hK (chkE_ok tok a sc false _ h fb X W g tk).1
    · cases h
  | .srt a, sc, k, e, h => by
    unfold chkE at h
    split at h
    · simp only [Bool.and_eq_true] at h
      obtain ⟨⟨⟨⟨h1, h2⟩, h3⟩, h4⟩, h5⟩ := h
      have h1 := of_decide_eq_true h1
      subst h1
      refine okV rfl fun fb X W g tk => ?_
      simp only [ev]
      exact se_srt g.hK (g.gl h3) (g.free tok h2) h4 (chkE_ok tok a sc false _ h5 fb X W g tk).1
    · cases h
  | .heard f a, sc, k, e, h => by
    unfold chkE at h
    split at h
    · simp only [Bool.and_eq_true, Bool.not_eq_true', decide_eq_true_eq, decide_eq_false_iff_not] at h
      obtain ⟨⟨⟨⟨⟨⟨⟨h1, h2⟩, h3⟩, h4⟩, h5⟩, h6⟩, h7⟩, h8⟩ := h
      refine okV rfl fun fb X W g tk => ?_
      simp only [ev]
      have hfind : ∃ hh, (T.hrd.find? fun h => decide (h.f = f)) = some hh := by
        cases e : T.hrd.find? fun h => decide (h.f = f) with
        | some hh => exact ⟨hh, rfl⟩
        | none =>
          obtain ⟨y, hy, ey⟩ := List.any_eq_true.mp h2
          exact absurd ey (by simpa using List.find?_eq_none.mp e y hy)
      obtain ⟨hh, hfd⟩ := hfind
      have hmem := List.mem_of_find?_eq_some hfd
      have hff : hh.f = f := by have z := List.find?_some hfd; simpa using z
      have e0 : (fun sp M => heardR T f (ev T Γ a sp M)) = fun sp M => heardH T hh (ev T Γ a sp M) := by
        funext sp M
        unfold heardR
        rw [hfd]
      rw [e0]
      exact se_heard tok g hmem (by rw [hff]; exact h1) h3 h4 (LamX.lamS_by h5) h6 (g.gl h7) fun Y E gy tky => (chkE_ok tok a _ false _ h8 _ Y E gy tky).1
    · cases h
  | .comp own tg it cd elt, sc, k, e, h => by
    unfold chkE at h
    split at h
    · simp only [Bool.and_eq_true] at h
      obtain ⟨⟨⟨⟨⟨⟨⟨h0, h1⟩, h2⟩, h3⟩, h4⟩, h5⟩, h6⟩, h7⟩ := h
      refine okV rfl fun fb X W g tk => ?_
      simp only [ev]
      refine se_comp (cc := evC T Γ cd) (ce := ev T Γ elt) (t := tg) g.calm (g.hN ▸ g.nd) (chkI_ok tok it sc _ _ h5 fb X W g tk) (g.blkOk h1) (fun s H C cl fp => chkT_ok tg _ h2 (g.blk tok h0)) (fun s H C cl fp => ?_) (fun s H C cl fp => (chkE_ok tok elt _ false _ h7 _ _ W0 (g.blk tok h0) takes0).1) (folded_of h4) fun i hi => ?_
      · exact chkC_ok tok cd _ _ h6 _ _ (g.blk tok h0)
      · have q := List.all_eq_true.mp h3 i hi
        obtain ⟨j, hj, ej⟩ := List.any_eq_true.mp q
        exact (of_decide_eq_true ej) ▸ hj
    · cases h
theorem chkO_ok (tok : TabOk T G) : ∀ (c : Option CE) (sc : Scope) (e : Option PySem.Expr), chkO T N sc c e = true → ∀ (fb : Str → Bool) (X : Cx) (W : WX), Good G Γ N sc fb X → Takes X W → PO X e (LO G W (evO T Γ c))
  | none, sc, e, h, fb, X, W, g, tk => by
    unfold chkO at h
    split at h
    · simp only [evO]
      exact so_none
    · cases h
  | some c, sc, e, h, fb, X, W, g, tk => by
    unfold chkO at h
    split at h
    · simp only [evO]
      exact so_some (chkE_ok tok c sc false _ h fb X W g tk).1
    · cases h
theorem chkC_ok (tok : TabOk T G) : ∀ (c : Option CE) (sc : Scope) (e : List PySem.Expr), chkC T N sc c e = true → ∀ (fb : Str → Bool) (X : Cx), Good G Γ N sc fb X → PTs X e (tLockT (LT G W0 (evC T Γ c)))
  | none, sc, e, h, fb, X, g => by
    unfold chkC at h
    split at h
    · have e0 : evC T Γ none = fun _ M => .ok true M := by funext sp M; simp only [evC]
      rw [e0]
      exact sts_nil
    · cases h
  | some c, sc, e, h, fb, X, g => by
    unfold chkC at h
    split at h
    · have e0 : evC T Γ (some c) = fun sp M => evTr (ev T Γ c sp M) := by funext sp M; simp only [evC]; rfl
      rw [e0]
      exact sts_one ((chkE_ok tok c sc true _ h fb X W0 g takes0).2 rfl)
    · cases h
theorem chkEs_ok (tok : TabOk T G) : ∀ (cs : CEs) (sc : Scope) (es : List PySem.Expr), chkEs T N sc cs es = true → ∀ (fb : Str → Bool) (X : Cx) (W : WX), Good G Γ N sc fb X → Takes X W → PA X es (LA G W (evs T Γ cs))
  | .nil, sc, es, h, fb, X, W, g, tk => by
    unfold chkEs at h
    have e : es = [] := by simpa using h
    subst e
    simp only [evs]
    exact sa_nil
  | .cons c r, sc, es, h, fb, X, W, g, tk => by
    unfold chkEs at h
    split at h
    · obtain ⟨h1, h2, h3⟩ := and3 h
      simp only [evs]
      exact sa_cons h1 (chkE_ok tok c sc false _ h2 fb X W g tk).1 (chkEs_ok tok r sc _ h3 fb X W g tk)
    · cases h
  | .star c r, sc, es, h, fb, X, W, g, tk => by
    unfold chkEs at h
    split at h
    · rw [Bool.and_eq_true] at h
      simp only [evs]
      exact sa_star g.hK (chkE_ok tok c sc false _ h.1 fb X W g tk).1 (chkEs_ok tok r sc _ h.2 fb X W g tk)
    · cases h
theorem chkB_ok (tok : TabOk T G) : ∀ (cs : CEs) (sc : Scope) (k : Bool) (es : List PySem.Expr), chkB T N sc k cs es = true → ∀ (fb : Str → Bool) (X : Cx) (W : WX), Good G Γ N sc fb X → Takes X W → ∀ pos : Pos,
    ((PE X (.BoolOp .And es pos) (LE G W (evAnd T Γ cs)) ∧ (k = true → PW X (.BoolOp .And es pos) (LT G W fun sp M => evTr (evAnd T Γ cs sp M)))) ∧
     (PE X (.BoolOp .Or es pos) (LE G W (evOr T Γ cs)) ∧ (k = true → PW X (.BoolOp .Or es pos) (LT G W fun sp M => evTr (evOr T Γ cs sp M)))))
  | .nil, sc, k, es, h, fb, X, W, g, tk, pos => by unfold chkB at h; cases h
  | .star _ _, sc, k, es, h, fb, X, W, g, tk, pos => by unfold chkB at h; cases h
  | .cons c .nil, sc, k, es, h, fb, X, W, g, tk, pos => by
    unfold chkB at h
    split at h
    · have ih := chkE_ok tok c sc k _ h fb X W g tk
      rw [evAnd1, evOr1]
      exact ⟨⟨pe_one ih.1, fun hk => pw_and1 (ih.2 hk)⟩, pe_one ih.1, fun hk => pw_or1 (ih.2 hk)⟩
    · cases h
  | .cons c (.cons c2 r), sc, k, es, h, fb, X, W, g, tk, pos => by
    unfold chkB at h
    split at h
    · rw [Bool.and_eq_true] at h
      have ia := chkE_ok tok c sc k _ h.1 fb X W g tk
      have ir := chkB_ok tok (.cons c2 r) sc k _ h.2 fb X W g tk pos
      have e1 : evAnd T Γ (.cons c (.cons c2 r)) = fun sp M => (ev T Γ c sp M).bind (andK (evAnd T Γ (.cons c2 r) sp)) := by funext sp M; simp only [evAnd]
      have e2 : evOr T Γ (.cons c (.cons c2 r)) = fun sp M => (ev T Γ c sp M).bind (orK (evOr T Γ (.cons c2 r) sp)) := by funext sp M; simp only [evOr]
      rw [e1, e2]
      exact ⟨⟨se_and ia.1 ir.1.1, fun hk => st_and (ia.2 hk) (ir.1.2 hk)⟩, se_or ia.1 ir.2.1, fun hk => st_or (ia.2 hk) (ir.2.2 hk)⟩
    · cases h
  | .cons c (.star c2 r), sc, k, es, h, fb, X, W, g, tk, pos => by
    unfold chkB at h
    split at h
    · rw [Bool.and_eq_true] at h
      have h2 := h.2
      unfold chkB at h2
      cases h2
    · cases h
theorem chkI_ok (tok : TabOk T G) : ∀ (c : CI) (sc : Scope) (tg e : PySem.Expr), chkI T N sc c tg e = true → ∀ (fb : Str → Bool) (X : Cx) (W : WX), Good G Γ N sc fb X → Takes X W → PI X tg e (LI G W (evI T Γ c))
  | .seq c, sc, tg, e, h, fb, X, W, g, tk => by
    unfold chkI at h
    simp only [evI]
    exact si_seq g.hK (chkE_ok tok c sc false _ h fb X W g tk).1
  | .rng1 a, sc, tg, e, h, fb, X, W, g, tk => by
    unfold chkI at h
    split at h
    · simp only [Bool.and_eq_true] at h
      obtain ⟨⟨⟨⟨h1, h2⟩, h3⟩, h4⟩, h5⟩ := h
      have h1 := of_decide_eq_true h1
      subst h1
      simp only [evI]
      exact si_rng1 (g.gl h3) (g.free tok h2) h4 (chkE_ok tok a sc false _ h5 fb X W g tk).1
    · cases h
  | .rng2 a b, sc, tg, e, h, fb, X, W, g, tk => by
    unfold chkI at h
    split at h
    · simp only [Bool.and_eq_true] at h
      obtain ⟨⟨⟨⟨⟨⟨h1, h2⟩, h3⟩, h4⟩, h5⟩, h6⟩, h7⟩ := h
      have h1 := of_decide_eq_true h1
      subst h1
      simp only [evI]
      exact si_rng2 (g.gl h3) (g.free tok h2) h4 h5 (chkE_ok tok a sc false _ h6 fb X W g tk).1 (chkE_ok tok b sc false _ h7 fb X W g tk).1
    · cases h
  | .rng3 a b c, sc, tg, e, h, fb, X, W, g, tk => by
    unfold chkI at h
    split at h
    · simp only [Bool.and_eq_true] at h
      obtain ⟨⟨⟨⟨⟨⟨⟨⟨h1, h2⟩, h3⟩, h4⟩, h5⟩, h6⟩, h7⟩, h8⟩, h9⟩ := h
      have h1 := of_decide_eq_true h1
      subst h1
      simp only [evI]
      exact si_rng3 (g.gl h3) (g.free tok h2) h4 h5 h6 (chkE_ok tok a sc false _ h7 fb X W g tk).1 (chkE_ok tok b sc false _ h8 fb X W g tk).1 (chkE_ok tok c sc false _ h9 fb X W g tk).1
    · cases h
  | .enum a, sc, tg, e, h, fb, X, W, g, tk => by
    unfold chkI at h
    split at h
    · simp only [Bool.and_eq_true] at h
      obtain ⟨⟨⟨⟨⟨h0, h1⟩, h2⟩, h3⟩, h4⟩, h5⟩ := h
      have h1 := of_decide_eq_true h1
      subst h1
      simp only [evI]
      cases tg <;> first
        | (exfalso; exact Bool.false_ne_true h0)
        | (exact si_enum g.hK (g.gl h3) (g.free tok h2) h4 (chkE_ok tok a sc false _ h5 fb X W g tk).1)
    · cases h
  | .zip a b, sc, tg, e, h, fb, X, W, g, tk => by
    unfold chkI at h
    split at h
    · simp only [Bool.and_eq_true] at h
      obtain ⟨⟨⟨⟨⟨⟨⟨h0, h1⟩, h2⟩, h3⟩, h4⟩, h5⟩, h6⟩, h7⟩ := h
      have h1 := of_decide_eq_true h1
      subst h1
      simp only [evI]
      cases tg <;> first
        | (exfalso; exact Bool.false_ne_true h0)
        | (exact si_zip g.hK (g.gl h3) (g.free tok h2) h4 h5 (chkE_ok tok a sc false _ h6 fb X W g tk).1 (chkE_ok tok b sc false _ h7 fb X W g tk).1)
    · cases h
  | .zip3 a b c, sc, tg, e, h, fb, X, W, g, tk => by
    unfold chkI at h
    split at h
    · simp only [Bool.and_eq_true] at h
      obtain ⟨⟨⟨⟨⟨⟨⟨⟨⟨h0, h1⟩, h2⟩, h3⟩, h4⟩, h5⟩, h6⟩, h7⟩, h8⟩, h9⟩ := h
      have h1 := of_decide_eq_true h1
      subst h1
      simp only [evI]
      cases tg <;> first
        | (exfalso; exact Bool.false_ne_true h0)
        | (exact si_zip3 g.hK (g.gl h3) (g.free tok h2) h4 h5 h6 (chkE_ok tok a sc false _ h7 fb X W g tk).1 (chkE_ok tok b sc false _ h8 fb X W g tk).1 (chkE_ok tok c sc false _ h9 fb X W g tk).1)
    · cases h
end
end
end DI
set_option maxHeartbeats 4000000
/-! # DI: statements, rule by rule -/
namespace DI
open PySem PySem.Spec L2

section
variable {G : Gd} {W : WX} {σ : St} {sp : Sl} {M : Store} {ι : List Addr} {H : Hp} {D : Ends}
theorem PostS.ofE {Q : VK} {r : Res PV} {k : PV → Store → SRes} (h : PostS G W D M ι H (.ofR r sp k)) (s : SRep G M ι H sp σ)
    (hq : ∀ p M1 ι1 H1 v, MRel G M1 ι1 H1 → Ext M ι H M1 ι1 H1 → Rp G ι1 H1 (Own M1 ι1) p v → PostS G W D M1 ι1 H1 (k p M1) → Q v H1) : PostE G W σ M ι H Q r := by
  cases r with
  | ok p M1 => exact fun ι1 H1 v a b c => hq p M1 ι1 H1 v a b c (PostS.from (r := k p M1) h b)
  | exc x M1 => exact fun ι' H' cv d a b c => h ι' H' σ cv d a b (s.ext b) c
  | bad => exact h
theorem PostS.ofA {Q : List V → Hp → Prop} {r : Res (List PV)} {k : List PV → Store → SRes} (h : PostS G W D M ι H (.ofR r sp k)) (s : SRep G M ι H sp σ)
    (hq : ∀ p M1 ι1 H1 v, MRel G M1 ι1 H1 → Ext M ι H M1 ι1 H1 → Rps G ι1 H1 (Own M1 ι1) p v → PostS G W D M1 ι1 H1 (k p M1) → Q v H1) : PostA G W σ M ι H Q r := by
  cases r with
  | ok p M1 => exact fun ι1 H1 v a b c => hq p M1 ι1 H1 v a b c (PostS.from (r := k p M1) h b)
  | exc x M1 => exact fun ι' H' cv d a b c => h ι' H' σ cv d a b (s.ext b) c
  | bad => exact h
theorem PostS.ofT {Q : Bool → Hp → Prop} {r : Res Bool} {k : Bool → Store → SRes} (h : PostS G W D M ι H (.ofR r sp k)) (s : SRep G M ι H sp σ)
    (hq : ∀ p M1 ι1 H1, MRel G M1 ι1 H1 → Ext M ι H M1 ι1 H1 → PostS G W D M1 ι1 H1 (k p M1) → Q p H1) : PostT G W σ M ι H Q r := by
  cases r with
  | ok p M1 => exact fun ι1 H1 a b => hq p M1 ι1 H1 a b (PostS.from (r := k p M1) h b)
  | exc x M1 => exact fun ι' H' cv d a b c => h ι' H' σ cv d a b (s.ext b) c
  | bad => exact h
theorem PostS.ofI {R : It → Hp → Prop} {r : Res ItV} {k : ItV → Store → SRes} (h : PostS G W D M ι H (.ofR r sp k)) (s : SRep G M ι H sp σ)
    (hq : ∀ V M1 ι1 H1 J, MRel G M1 ι1 H1 → Ext M ι H M1 ι1 H1 → ItRep G V M1 ι1 H1 J → PostS G W D M1 ι1 H1 (k V M1) → R J H1) : PostI G W σ M ι H R r := by
  cases r with
  | ok p M1 => exact fun ι1 H1 v a b c => hq p M1 ι1 H1 v a b c (PostS.from (r := k p M1) h b)
  | exc x M1 => exact fun ι' H' cv d a b c => h ι' H' σ cv d a b (s.ext b) c
  | bad => exact h
end
section
variable {T : Tab} {G : Gd} {Γ : Fns} {W : WX} {X : Cx} {pos : Pos} {e : PySem.Expr} {ce cc : Ev PV} {ca cb : Ex}
/-! ### assignments -/
theorem asg_name {i : Nat} {p : PV} {sp sp' : Sl} (h : asg (.name i) p sp = some sp') : sp' = sp.set i (some p) := by
  simp only [asg] at h
  split at h
  · cases h; rfl
  · cases h
theorem nameW {i : Nat} {D : Ends} {σ : St} {H : Hp} (h : LS G W (fun sp M => .ofR (ce sp M) sp (asgK (.name i) sp)) D σ H) : tAsg (LE G W ce) (gName i) D σ H := by
  obtain ⟨M, ι, sp, m, s, post⟩ := h
  refine ⟨M, ι, sp, m, s, PostS.ofE post s fun p M1 ι1 H1 v m1 e1 r1 post1 => ?_⟩
  unfold asgK at post1
  split at post1
  · rename_i sp' ha
    have ha := asg_name ha
    subst ha
    exact post1 ι1 H1 _ m1 .refl ((s.ext e1).set r1 i)
  · exact post1.elim
theorem ss_set {i : Nat} {x : Str} {px : Pos} (hN : X.N.Nodup) (hi : X.N[i]? = some x) (hx : Loc X.env.scope x) (hf : X.fn x = true ∨ X.env.scope.names.lookup x = some .local) (he : PE X e (LE G W ce)) (hs : swapsWith e (some (.Name x px)) pos.line X.env = pure false) :
    PS X (.Assign [.Name x px] e pos) (LS G W fun sp M => .ofR (ce sp M) sp (asgK (.name i) sp)) :=
  (ps_set hN hi hx he hs hf).w fun D σ H h => nameW h
theorem ss_tup {tg : PySem.Expr} {t : CT} (he : PE X e (LE G W ce)) (hg : PG X tg (LG G t)) (hs : swapsWithSole [tg] e pos.line X.env = pure false) (hw : swappedStores [tg] e X.env = pure none) (h1 : (assignEach [tg] X.env).map (·.2) = [assign tg X.env]) :
    PS X (.Assign [tg] e pos) (LS G W fun sp M => .ofR (ce sp M) sp (asgK t sp)) :=
  (ps_asg he hg hs hw h1).w fun D σ H h => by
    obtain ⟨M, ι, sp, m, s, post⟩ := h
    refine ⟨M, ι, sp, m, s, PostS.ofE post s fun p M1 ι1 H1 v m1 e1 r1 post1 => ?_⟩
    unfold asgK at post1
    split at post1
    · rename_i sp' ha
      exact ⟨M1, ι1, H1, sp, p, Sub.rfl', s.ext e1, r1, sp', ha, fun σ' s' _ => post1 ι1 H1 σ' m1 .refl s'⟩
    · exact post1.elim
theorem asgs2 {i j : Nat} {ps : List PV} {sp sp' : Sl} (h : asgs [.name i, .name j] ps sp = some sp') : ∃ p q, ps = [p, q] ∧ sp' = (sp.set i (some p)).set j (some q) := by
  match ps, h with
  | [], h => simp [asgs] at h
  | [p], h => simp only [asgs, asg] at h; split at h <;> simp at h
  | [p, q], h =>
    simp only [asgs, asg] at h
    split at h
    · rename_i sp1 e1
      split at h
      · rename_i sp2 e2
        cases h
        split at e1
        · cases e1
          split at e2
          · cases e2; exact ⟨p, q, rfl, rfl⟩
          · cases e2
        · cases e1
      · cases h
    · cases h
  | p :: q :: r :: ps, h =>
    simp only [asgs, asg] at h
    split at h
    · split at h
      · simp at h
      · cases h
    · cases h
theorem asgs3 {i j l : Nat} {ps : List PV} {sp sp' : Sl} (h : asgs [.name i, .name j, .name l] ps sp = some sp') : ∃ p q r, ps = [p, q, r] ∧ sp' = ((sp.set i (some p)).set j (some q)).set l (some r) := by
  cases ps with
  | nil => simp [asgs] at h
  | cons p ps =>
    simp only [asgs] at h
    split at h
    · rename_i sp1 e1
      obtain ⟨q, r, rfl, rfl⟩ := asgs2 (by simpa only [asgs] using h)
      rw [asg_name e1]
      exact ⟨p, q, r, rfl, rfl⟩
    · cases h
theorem ss_par2 {i j : Nat} {x y : Str} {a b : PySem.Expr} {car : Ev (List PV)} {px py pt : Pos} {kt k2 pt2} (hc : X.calm = true) (hN : X.N.Nodup) (hi : X.N[i]? = some x) (hj : X.N[j]? = some y) (hij : i ≠ j)
    (hx : X.env.scope.names.lookup x = some .local) (hy : X.env.scope.names.lookup y = some .local) (ha : PA X [a, b] (LA G W car))
    (hw : swappedStores [.Tuple [.Name x px, .Name y py] kt pt] (.Tuple [a, b] k2 pt2) X.env = pure (some [x, y])) :
    PS X (.Assign [.Tuple [.Name x px, .Name y py] kt pt] (.Tuple [a, b] k2 pt2) pos) (LS G W fun sp M => .ofR (car sp M) sp (parK [i, j] sp)) :=
  (ps_par hc hN hi hj hij hx hy ha hw rfl).w fun D σ H h => by
    obtain ⟨M, ι, sp, m, s, post⟩ := h
    refine ⟨M, ι, sp, m, s, PostS.ofA post s fun ps M1 ι1 H1 vs m1 e1 r1 post1 => ?_⟩
    unfold parK at post1
    split at post1
    · rename_i sp' hp
      obtain ⟨p, q, rfl, rfl⟩ := asgs2 hp
      obtain ⟨v, w, rfl, rp, rq⟩ := r1.two
      exact ⟨v, w, rfl, post1 ι1 H1 _ m1 .refl (((s.ext e1).set rp i).set rq j)⟩
    · exact post1.elim
theorem ss_par3 {i j l : Nat} {x y z : Str} {a b c : PySem.Expr} {car : Ev (List PV)} {px py pz pt : Pos} {kt k2 pt2} (hc : X.calm = true) (hN : X.N.Nodup) (hi : X.N[i]? = some x) (hj : X.N[j]? = some y) (hl : X.N[l]? = some z) (hij : i ≠ j) (hil : i ≠ l) (hjl : j ≠ l)
    (hx : X.env.scope.names.lookup x = some .local) (hy : X.env.scope.names.lookup y = some .local) (hz : X.env.scope.names.lookup z = some .local) (ha : PA X [a, b, c] (LA G W car))
    (hw : swappedStores [.Tuple [.Name x px, .Name y py, .Name z pz] kt pt] (.Tuple [a, b, c] k2 pt2) X.env = pure (some [x, y, z])) :
    PS X (.Assign [.Tuple [.Name x px, .Name y py, .Name z pz] kt pt] (.Tuple [a, b, c] k2 pt2) pos) (LS G W fun sp M => .ofR (car sp M) sp (parK [i, j, l] sp)) :=
  (ps_par3 hc hN hi hj hl hij hil hjl hx hy hz ha hw rfl).w fun D σ H h => by
    obtain ⟨M, ι, sp, m, s, post⟩ := h
    refine ⟨M, ι, sp, m, s, PostS.ofA post s fun ps M1 ι1 H1 vs m1 e1 r1 post1 => ?_⟩
    unfold parK at post1
    split at post1
    · rename_i sp' hp
      obtain ⟨p, q, r, rfl, rfl⟩ := asgs3 hp
      cases r1 with
      | cons rp r1 =>
        obtain ⟨v, w, rfl, rq, rr⟩ := r1.two
        exact ⟨_, v, w, rfl, post1 ι1 H1 _ m1 .refl ((((s.ext e1).set rp i).set rq j).set rr l)⟩
    · exact post1.elim
theorem setP_at {M M4 : Store} {p q v : PV} {ι : List Addr} {H : Hp} (m : MRel G M ι H) {x y w : V} (rp : Rp G ι H (Own M ι) p x) (rq : Rp G ι H (Own M ι) q y) (rv : Rp G ι H (Own M ι) v w) (h : setP M p q v = some M4) :
    ∃ a xs k j, x = .ref a ∧ y = .int k ∧ H a = some (.lst xs) ∧ ixN xs.length k = some j ∧ MRel G M4 ι (upd H a (.lst (xs.set j w))) ∧ Ext M ι H M4 ι (upd H a (.lst (xs.set j w))) := by
  unfold setP at h
  split at h
  · rename_i n k
    split at h
    · rename_i xs hx
      split at h
      · rename_i j hj
        cases h
        obtain ⟨a, vs, rfl, h1, h2, h3, h4, h5⟩ := m.lstAt hx rp
        cases rq
        exact ⟨a, vs, k, j, rfl, rfl, h3, by rw [← h5.length]; exact hj, m.writeL h2 h1 (by simpa using h4) (h5.set rv j), Ext.write h2 h1⟩
      · cases h
    · cases h
  · cases h
theorem sole_sub {o i e : PySem.Expr} {tpos : Pos} {l : Nat} {env : Env} : swapsWithSole [.Subscript o i tpos] e l env = pure false := by
  unfold swapsWithSole swapsWith
  cases e <;> rfl
theorem ss_asgI {o i : PySem.Expr} {tpos : Pos} {co ci : Ev PV} (he : PE X e (LE G W ce)) (ho : PE X o (LE G W co)) (hi : PE X i (LE G W ci)) (hn : notSlice i = true) :
    PS X (.Assign [.Subscript o i tpos] e pos) (LS G W fun sp M => .ofR (ce sp M) sp fun v M1 => .ofR (co sp M1) sp fun p M2 => .ofR (ci sp M2) sp fun q M3 => setK sp v p q M3) :=
  (ps_asg he (pg_sub ho hi set_list (by intro v; cases i <;> first | rfl | cases hn)) sole_sub (by unfold swappedStores; cases e <;> rfl) rfl).w fun D σ H h => by
    obtain ⟨M, ι, sp, m, s, post⟩ := h
    refine ⟨M, ι, sp, m, s, PostS.ofE post s fun v M1 ι1 H1 w m1 e1 r1 post1 => ⟨M1, ι1, sp, m1, s.ext e1, PostS.ofE post1 (s.ext e1) fun p M2 ι2 H2 x m2 e2 r2 post2 => ⟨M2, ι2, sp, m2, (s.ext e1).ext e2, PostS.ofE post2 ((s.ext e1).ext e2) fun q M3 ι3 H3 y m3 e3 r3 post3 => ?_⟩⟩⟩
    unfold setK at post3
    split at post3
    · rename_i M4 hs
      obtain ⟨a, xs, k, j, rfl, rfl, h1, h2, h3, h4⟩ := setP_at m3 (r2.ext e3) r3 ((r1.ext e2).ext e3) hs
      exact ⟨a, xs, k, j, rfl, rfl, h1, h2, post3 ι3 _ σ h3 h4 ((((s.ext e1).ext e2).ext e3).ext h4)⟩
    · exact post3.elim
/-! ### in place -/
def LIp (G : Gd) (op : Operator) : TIp := fun x y H Q => ∃ M ι p q, MRel G M ι H ∧ Rp G ι H (Own M ι) p x ∧ Rp G ι H (Own M ι) q y ∧ PostV G M ι H Q (augP op M p q)
theorem ip_aug : ∀ op : Operator, PIp X op (LIp G op) := by
  intro op pins s σ H x y v u Q I rx ry h
  obtain ⟨M, ι, p, q, m, rp, rq, post⟩ := h
  unfold augP at post
  split at post
  · rename_i i j
    cases rp
    cases rq
    split at post
    · exact ip_add pins s σ H _ _ v u Q I rx ry ⟨i, j, rfl, rfl, post.now m (.int _)⟩
    · exact ip_sub pins s σ H _ _ v u Q I rx ry ⟨i, j, rfl, rfl, post.now m (.int _)⟩
    · split at post
      · rename_i hz
        simp only [Bool.and_eq_true, decide_eq_true_eq] at hz
        exact iop_mul pins s σ H _ _ v u Q I rx ry ⟨i, j, rfl, rfl, .inr hz, post.now m (.int _)⟩
      · exact post.elim
    · exact post.elim
  · exact post.elim
theorem ss_aug {i : Nat} {x : Str} {op : Operator} {px : Pos} (hN : X.N.Nodup) (hi : X.N[i]? = some x) (hx : Loc X.env.scope x) (hf : X.fn x = true ∨ X.env.scope.names.lookup x = some .local) (he : PE X e (LE G W ce)) :
    PS X (.AugAssign (.Name x px) op e pos) (LS G W fun sp M => match sp[i]? with
      | some (some p) => .ofR (ce sp M) sp (augK op i sp p)
      | _ => .bad) :=
  (ps_aug hN hi hx he (ip_aug op) hf).w fun D σ H h => by
    obtain ⟨M, ι, sp, m, s, post⟩ := h
    dsimp only at post
    split at post
    · rename_i p hp
      obtain ⟨v, h1, h2⟩ := s.at_ i p hp
      refine ⟨v, h1, M, ι, sp, m, s, PostS.ofE post s fun q M1 ι1 H1 w m1 e1 r1 post1 => ⟨M1, ι1, p, q, m1, h2.ext e1, r1, ?_⟩⟩
      unfold augK at post1
      split at post1
      · rename_i r hr
        rw [hr]
        exact fun ι2 H2 z m2 e2 r2 => post1 ι2 H2 _ m2 e2 (((s.ext e1).ext e2).set r2 i)
      · exact post1.elim
    · exact post.elim
end
end DI
set_option maxHeartbeats 4000000
/-! # DI: more statements -/
namespace DI
open PySem PySem.Spec L2

theorem get_listL {X : Cx} : PGet X (rIxL X.K) := by
  intro pins s σ H x y v u Q I rx ry h
  obtain ⟨p, xs, i, z, rfl, rfl, hq, he, q⟩ := h
  cases rx
  obtain ⟨t, rfl⟩ := ry
  obtain ⟨its, r, pl, hz⟩ := I.list hq
  obtain ⟨j, h1, h2, h3, h4, h5⟩ := atI_get he
  obtain ⟨w, ew, rw'⟩ := r.get h2
  have hl := r.length
  have hn := line63
  have fin : EP X pins σ Q w s := ⟨z, H, I, rw', q⟩
  by_cases h0 : 0 ≤ i
  · have hj : i.toNat = j := by
      rw [seqIndex_of h0 h5] at h1
      exact Option.some.inj h1
    exact wpAny_getItem_list pl.isList h0 (by omega) (by rw [hj]; simpa using ew) fin
  · have hj : (i + (its.toArray.size : Int)).toNat = j := by
      rw [seqIndex_neg (by omega) h4] at h1
      rw [List.size_toArray, ← hl]
      exact Option.some.inj h1
    exact wpAny_getItem_list_neg pl.isList (by omega) (by rw [List.size_toArray] <;> omega) (by omega) (by rw [hj]; simpa using ew) fin
section
variable {T : Tab} {G : Gd} {Γ : Fns} {W : WX} {X : Cx} {pos : Pos} {e : PySem.Expr} {ce : Ev PV} {cc : Ev Bool} {ca cb : Ex}
theorem ss_augI (hK : X.K = G.K) {op : Operator} {o i : PySem.Expr} {tpos : Pos} {co ci : Ev PV} (ho : PE X o (LE G W co)) (hi : PE X i (LE G W ci)) (hn : notSlice i = true) (he : PE X e (LE G W ce)) :
    PS X (.AugAssign (.Subscript o i tpos) op e pos) (LS G W fun sp M => .ofR (co sp M) sp fun p M1 => .ofR (ci sp M1) sp fun k M2 => if isRef p = true then augIK op sp ce p k M2 else .bad) :=
  (ps_augS ho hi get_listL he (ip_aug op) set_list (by intro ov iv new; cases i <;> first | rfl | cases hn)).w fun D σ H h => by
    obtain ⟨M, ι, sp, m, s, post⟩ := h
    refine ⟨M, ι, sp, m, s, PostS.ofE post s fun p M1 ι1 H1 x m1 e1 r1 post1 => ⟨M1, ι1, sp, m1, s.ext e1, PostS.ofE post1 (s.ext e1) fun k M2 ι2 H2 y m2 e2 r2 post2 => ?_⟩⟩
    have s2 := (s.ext e1).ext e2
    split at post2
    · rename_i hr
      unfold isRef at hr
      split at hr
      · rename_i n
        have rp := r1.ext e2
        unfold augIK at post2
        split at post2
        · rename_i old ho
          cases k with
          | int k =>
            cases r2
            simp only [idxP] at ho
            split at ho
            · rename_i xs hx
              obtain ⟨a, vs, rfl, h1, h2, h3, h4, h5⟩ := m2.lstAt hx rp
              obtain ⟨w, hw, rw'⟩ := h5.atI ho
              refine ⟨a, vs, k, w, rfl, rfl, SqL.of h3, hw, M2, ι2, sp, m2, s2, PostS.ofE post2 s2 fun q M3 ι3 H3 z m3 e3 r3 post3 => ⟨M3, ι3, old, q, m3, rw'.ext e3, r3, ?_⟩⟩
              split at post3
              · rename_i r hr
                rw [hr]
                intro ι4 H4 u m4 e4 r4
                unfold setK at post3
                split at post3
                · rename_i M4 hs
                  obtain ⟨a', xs', k', j, q1, q2, q3, q4, q5, q6⟩ := setP_at m4 ((rp.ext e3).ext e4) ((Rp.int k).ext (e3.trans e4)) r4 hs
                  exact ⟨a', xs', k', j, q1, q2, q3, q4, post3 ι4 _ σ q5 (e4.trans q6) ((((s2.ext e3).ext e4)).ext q6)⟩
                · exact post3.elim
              · exact post3.elim
            · cases ho
          | _ => simp [idxP] at ho
        · exact post2.elim
      · cases hr
    · exact post2.elim
/-! ### small statements -/
theorem ss_expr (he : PE X e (LE G W ce)) (hs : swapsWith e none pos.line X.env = pure false) : PS X (.Expr e pos) (LS G W fun sp M => .ofR (ce sp M) sp fun _ M1 => .nx sp M1) :=
  (ps_expr he hs).w fun D σ H h => by
    obtain ⟨M, ι, sp, m, s, post⟩ := h
    exact ⟨M, ι, sp, m, s, PostS.ofE post s fun p M1 ι1 H1 x m1 e1 r1 post1 => post1 ι1 H1 σ m1 .refl (s.ext e1)⟩
theorem ss_ret (he : PE X e (LE G W ce)) : PS X (.Return (some e) pos) (LS G W fun sp M => .ofR (ce sp M) sp fun p M1 => .ret p M1) :=
  (ps_ret he).w fun D σ H h => by
    obtain ⟨M, ι, sp, m, s, post⟩ := h
    exact ⟨M, ι, sp, m, s, PostS.ofE post s fun p M1 ι1 H1 x m1 e1 r1 post1 => post1 ι1 H1 x m1 .refl r1⟩
theorem ss_retN : PS X (.Return none pos) (LS G W fun _ M => .ret .non M) := ps_retN.w fun D σ H h => by
  obtain ⟨M, ι, sp, m, s, post⟩ := h
  exact post ι H _ m .refl .non
theorem ss_pass : PS X (.Pass pos) (LS G W fun sp M => .nx sp M) := ps_pass.w fun D σ H h => by
  obtain ⟨M, ι, sp, m, s, post⟩ := h
  exact post ι H σ m .refl s
theorem ss_brk : PS X (.Break pos) (LS G W fun sp M => .brk sp M) := ps_break.w fun D σ H h => by
  obtain ⟨M, ι, sp, m, s, post⟩ := h
  exact post ι H σ m .refl s
theorem ss_cnt : PS X (.Continue pos) (LS G W fun sp M => .cnt sp M) := ps_continue.w fun D σ H h => by
  obtain ⟨M, ι, sp, m, s, post⟩ := h
  exact post ι H σ m .refl s
theorem ss_nil : PSs X [] (LS G W fun sp M => .nx sp M) := pss_nil.w fun D σ H h => by
  obtain ⟨M, ι, sp, m, s, post⟩ := h
  exact post ι H σ m .refl s
theorem ss_cons {st : PySem.Stmt} {rest : List PySem.Stmt} (h1 : PS X st (LS G W ca)) (h2 : PSs X rest (LS G W cb)) : PSs X (st :: rest) (LS G W fun sp M => (ca sp M).seq cb) :=
  (pss_cons h1 h2).w fun D σ H h => by
    obtain ⟨M, ι, sp, m, s, post⟩ := h
    refine ⟨M, ι, sp, m, s, ?_⟩
    dsimp only at post
    cases e : ca sp M with
    | nx sp2 M2 =>
      rw [e] at post
      exact fun ι' H' σ' a b c => ⟨M2, ι', sp2, a, c, PostS.from (r := cb sp2 M2) post b⟩
    | _ => rw [e] at post; exact post
theorem ss_if {c : PySem.Expr} {a b : List PySem.Stmt} (hc : PT X c (LT G W cc)) (ha : PSs X a (LS G W ca)) (hb : PSs X b (LS G W cb)) : PS X (.If c a b pos) (LS G W fun sp M => .ofR (cc sp M) sp fun t M1 => if t = true then ca sp M1 else cb sp M1) :=
  (ps_if hc ha hb).w fun D σ H h => by
    obtain ⟨M, ι, sp, m, s, post⟩ := h
    refine ⟨M, ι, sp, m, s, PostS.ofT (k := fun t M1 => if t = true then ca sp M1 else cb sp M1) post s fun t M1 ι1 H1 m1 e1 post1 => ?_⟩
    cases t with
    | true => exact ⟨M1, ι1, sp, m1, s.ext e1, post1⟩
    | false => exact ⟨M1, ι1, sp, m1, s.ext e1, post1⟩
/-! ### loops -/
theorem Grow.same_of {H Hd' H'' : Hp} (g : Grow H H Hd' H'') : Hd' = H'' := by cases g <;> rfl
theorem ss_for {tg iter : PySem.Expr} {body : List PySem.Stmt} {ci : Ev ItV} {t : CT} (hp : PassesOwn (model X.prog X.w) X.A X.env X.xe) (hc : X.calm = true) (hi : PI X tg iter (LI G W ci)) (hg : PG X tg (LG G t)) (hb : PSs X body (LS G W cb)) (hs : ∀ x, foldedSetIterable iter X.env x = pure x) :
    PS X (.For tg iter body [] pos) (LS G W fun sp M => .ofR (ci sp M) sp fun J M1 => forR J.gd (asg t) cb J.items sp M1) :=
  (ps_for hp hc hi hg hb hs).w fun D σ H h => by
    obtain ⟨M, ι, sp, m, s, post⟩ := h
    refine ⟨M, ι, sp, m, s, PostS.ofI post s fun V M1 ι1 H1 J m1 e1 ir post1 => ?_⟩
    refine ⟨fun i mm σ H => ∃ Mi ιi spi, mm = V.items.length - i ∧ i ≤ V.items.length ∧ MRel G Mi ιi H ∧ Ext M1 ι1 H1 Mi ιi H ∧ SRep G Mi ιi H spi σ ∧ PostS G W D Mi ιi H (forR V.gd (asg t) cb (V.items.drop i) spi Mi), ⟨_, M1, ι1, sp, rfl, Nat.zero_le _, m1, .refl, s.ext e1, post1⟩, ?_⟩
    rintro i mm σ H ⟨Mi, ιi, spi, rfl, hi, mi, ei, si, posti⟩
    by_cases hlt : i < V.items.length
    · rw [List.drop_eq_getElem_cons hlt] at posti
      have hx : V.items[i]? = some V.items[i] := List.getElem?_eq_getElem hlt
      generalize V.items[i] = x at hx posti
      unfold forR gdIfS at posti
      by_cases hgd : gdOk Mi V.gd
      case neg => rw [if_neg hgd] at posti; exact posti.elim
      rw [if_pos hgd] at posti
      obtain ⟨jgo, jy⟩ := ir.go Mi ιi H H i x mi ei hgd Sub.rfl' hx
      refine .inr ⟨jgo, fun σ' H' => ∃ Mi ιi spi, V.items.length - (i + 1) = V.items.length - (i + 1) ∧ i + 1 ≤ V.items.length ∧ MRel G Mi ιi H' ∧ Ext M1 ι1 H1 Mi ιi H' ∧ SRep G Mi ιi H' spi σ' ∧ PostS G W D Mi ιi H' (forR V.gd (asg t) cb (V.items.drop (i + 1)) spi Mi), fun σ' H' hn => ⟨_, by omega, hn⟩, fun v H'' y => ?_⟩
      obtain ⟨Hd', gr, m2, e2, rv⟩ := jy v H'' y
      have := gr.same_of
      subst this
      split at posti
      · exact posti.elim
      · rename_i sp1 ha
        refine ⟨Mi, ιi, Hd', spi, x, Sub.rfl', si.ext e2, rv, sp1, ha, fun σ2 s2 _ => ⟨Mi, ιi, sp1, m2, s2, ?_⟩⟩
        have posti := PostS.from posti e2
        cases er : cb sp1 Mi with
        | nx sp2 M2 =>
          rw [er] at posti
          exact fun ι' H' σ' a b c => ⟨M2, ι', sp2, rfl, by omega, a, (ei.trans e2).trans b, c, PostS.from (r := forR V.gd (asg t) cb (V.items.drop (i + 1)) sp2 M2) posti b⟩
        | cnt sp2 M2 =>
          rw [er] at posti
          exact fun ι' H' σ' a b c => ⟨M2, ι', sp2, rfl, by omega, a, (ei.trans e2).trans b, c, PostS.from (r := forR V.gd (asg t) cb (V.items.drop (i + 1)) sp2 M2) posti b⟩
        | brk sp2 M2 => rw [er] at posti; exact posti
        | ret p M2 => rw [er] at posti; exact posti
        | exc x sp2 M2 => rw [er] at posti; exact posti
        | bad => rw [er] at posti; exact posti
    · have e : i = V.items.length := by omega
      rw [e, List.drop_length] at posti
      unfold forR gdIfS at posti
      by_cases hgd : gdOk Mi V.gd
      case neg => rw [if_neg hgd] at posti; exact posti.elim
      rw [if_pos hgd] at posti
      exact .inl ⟨by rw [e]; exact ir.stop Mi ιi H H mi ei hgd Sub.rfl', posti ιi H σ mi .refl si⟩
theorem ss_while {c : PySem.Expr} {body : List PySem.Stmt} (hp : PassesOwn (model X.prog X.w) X.A X.env X.xe) (hc : PT X c (LT G W cc)) (hb : PSs X body (LS G W cb)) : PS X (.While c body [] pos) (LS G W (whileR cc cb)) :=
  (ps_while hp hc hb).w fun D σ H h => by
    obtain ⟨M, ι, sp, m, s, post⟩ := h
    by_cases hh : ∃ n, whileN cc cb n sp M ≠ .bad
    case neg =>
      rw [whileR_bad fun n => Classical.byContradiction fun z => hh ⟨n, z⟩] at post
      exact post.elim
    obtain ⟨n0, hn0⟩ := hh
    rw [whileR_of hn0] at post
    refine ⟨fun mm σ H => ∃ Mi ιi spi, MRel G Mi ιi H ∧ SRep G Mi ιi H spi σ ∧ PostS G W D Mi ιi H (whileN cc cb mm spi Mi), ⟨n0, M, ι, sp, m, s, post⟩, ?_⟩
    rintro mm σ H ⟨Mi, ιi, spi, mi, si, posti⟩
    cases mm with
    | zero => exact posti.elim
    | succ k =>
      refine ⟨Mi, ιi, spi, mi, si, PostS.ofT (sp := spi) (k := fun b M1 => if b = true then (match cb spi M1 with
        | .nx sp2 M2 => whileN cc cb k sp2 M2
        | .cnt sp2 M2 => whileN cc cb k sp2 M2
        | .brk sp2 M2 => .nx sp2 M2
        | r => r) else .nx spi M1) posti si fun b M1 ι1 H1 m1 e1 post1 => ?_⟩
      cases b with
      | false => exact post1 ι1 H1 σ m1 .refl (si.ext e1)
      | true =>
        rw [if_pos rfl] at post1
        refine ⟨fun σ' H' => ∃ Mi ιi spi, MRel G Mi ιi H' ∧ SRep G Mi ιi H' spi σ' ∧ PostS G W D Mi ιi H' (whileN cc cb k spi Mi), fun σ' H' hn => ⟨k, by omega, hn⟩, M1, ι1, spi, m1, si.ext e1, ?_⟩
        cases er : cb spi M1 with
        | nx sp2 M2 =>
          rw [er] at post1
          exact fun ι' H' σ' a b c => ⟨M2, ι', sp2, a, c, PostS.from (r := whileN cc cb k sp2 M2) post1 b⟩
        | cnt sp2 M2 =>
          rw [er] at post1
          exact fun ι' H' σ' a b c => ⟨M2, ι', sp2, a, c, PostS.from (r := whileN cc cb k sp2 M2) post1 b⟩
        | brk sp2 M2 => rw [er] at post1; exact post1
        | ret p M2 => rw [er] at post1; exact post1
        | exc x sp2 M2 => rw [er] at post1; exact post1
        | bad => rw [er] at post1; exact post1
end
end DI
set_option maxHeartbeats 2000000
/-! # DI: fields set, targets that change objects -/
namespace DI
open PySem PySem.Spec L2
/-! ### a field is set -/
theorem putF_in {f : Str} {y v0 : V} : ∀ {fs : List (Str × V)}, fs.lookup f = some v0 → (putF f y fs).length = fs.length
  | [], h => by cases h
  | (g, x) :: r, h => by
    rw [show putF f y ((g, x) :: r) = (if g = f then (g, y) :: r else (g, x) :: putF f y r) from rfl]
    by_cases hg : g = f
    · rw [if_pos hg]
      rfl
    · rw [if_neg hg, List.length_cons, List.length_cons]
      have hb : (f == g) = false := beq_eq_false_iff_ne.mpr fun e => hg e.symm
      simp only [List.lookup, hb] at h
      rw [putF_in h]
theorem putF_sub {f g : Str} {y : V} : ∀ {fs : List (Str × V)}, g ∈ (putF f y fs).map (·.1) → g = f ∨ g ∈ fs.map (·.1)
  | [], h => by simpa [putF] using h
  | (k, x) :: r, h => by
    rw [show putF f y ((k, x) :: r) = (if k = f then (k, y) :: r else (k, x) :: putF f y r) from rfl] at h
    by_cases hk : k = f
    · rw [if_pos hk] at h
      exact .inr h
    · rw [if_neg hk, List.map_cons] at h
      rcases List.mem_cons.mp h with e | h
      · exact .inr (by rw [e]; simp)
      · rcases putF_sub h with e | e
        · exact .inl e
        · exact .inr (List.mem_cons_of_mem _ e)
theorem count_set {α : Type} : ∀ (fs : List (Option α)) (i : Nat) (q : α), fs[i]? = some none → ((fs.set i (some q)).filter fun o => o.isSome).length = (fs.filter fun o => o.isSome).length + 1
  | [], i, q, h => by cases h
  | x :: r, 0, q, h => by
    cases h
    rfl
  | x :: r, i + 1, q, h => by
    have ih := count_set r i q h
    rw [List.set_cons_succ]
    cases x with
    | none => exact ih
    | some p =>
      simp only [List.filter_cons_of_pos, Option.isSome_some, List.length_cons]
      rw [ih]
theorem count_set' {α : Type} : ∀ (fs : List (Option α)) (i : Nat) (p q : α), fs[i]? = some (some p) → ((fs.set i (some q)).filter fun o => o.isSome).length = (fs.filter fun o => o.isSome).length
  | [], i, p, q, h => by cases h
  | x :: r, 0, p, q, h => by
    cases h
    rfl
  | x :: r, i + 1, p, q, h => by
    have ih := count_set' r i p q h
    rw [List.set_cons_succ]
    cases x with
    | none => exact ih
    | some p =>
      simp only [List.filter_cons_of_pos, Option.isSome_some, List.length_cons]
      rw [ih]
section
variable {G : Gd} {W : WX} {X : Cx} {T : Tab} {Γ : Fns} {f : Str}
theorem setF_at {M M4 : Store} {p q : PV} {ι : List Addr} {H : Hp} (tok : TabOk T G) (m : MRel G M ι H) {x y : V} (rp : Rp G ι H (Own M ι) p x) (rq : Rp G ι H (Own M ι) q y) (h : setFP T M p f q = some M4) :
    ∃ a C dx fvs, x = .ref a ∧ H a = some (.ins C dx fvs) ∧ Cls G.K C ∧ NoAttr G.K C f ∧ fvs.length < 1000 ∧ MRel G M4 ι (upd H a (.ins C dx (putF f y fvs))) ∧ Ext M ι H M4 ι (upd H a (.ins C dx (putF f y fvs))) := by
  unfold setFP at h
  split at h
  · rename_i n
    split at h
    · rename_i c fs hM
      split at h
      · rename_i xn fn hc
        split at h
        · rename_i ho
          split at h
          · rename_i i hi
            cases h
            obtain ⟨h1, h2, _⟩ := List.findIdx?_eq_some_iff_getElem.mp hi
            have hf : fn[i]? = some f := by rw [List.getElem?_eq_getElem h1]; exact congrArg some (of_decide_eq_true h2)
            cases rp with
            | ref hι =>
              obtain ⟨a, ha, hob⟩ := m.obj n _ hM
              rw [hι] at ha
              cases ha
              obtain ⟨nm, fn', C, dx, fvs, g1, g2, g3, g4, g5, ⟨g6, gN, g9, gn⟩, g7⟩ := hob
              have g1' := (tok.cnm c xn fn hc).1
              rw [g1] at g1'
              cases g1'
              obtain ⟨hcl, hno, _⟩ := tok.own c (by simpa using ho) _ _ C hc g2
              have hcnt : (fs.filter fun o => o.isSome).length ≤ fs.length := List.length_filter_le _ _
              refine ⟨_, C, dx, fvs, rfl, g3, hcl, hno f (List.mem_of_getElem? hf), by omega, ?_, Ext.write hM hι⟩
              have hE := Ext.write (H := H) (u := .ins C dx (putF f y fvs)) (o' := .ins c (fs.set i (some q))) hM hι
              have hrq := Rp.ext hE q y rq
              rw [own_setF hM] at hrq
              have hil : i < fs.length := by rw [g6]; exact h1
              refine m.write hM hι ⟨_, _, C, dx, putF f y fvs, g1, g2, upd_same, fun g hg => ?_, ?_, ⟨by rw [List.length_set, g6], gN, g9, fun i' f' q1 q2 => ?_⟩, fun i' f' p' q1 q2 => ?_⟩
              · rcases putF_sub hg with e | e
                · rw [e]; exact List.mem_of_getElem? hf
                · exact g4 g e
              · cases hfi : fs[i]? with
                | none =>
                  rw [List.getElem?_eq_none_iff] at hfi
                  omega
                | some o =>
                  cases o with
                  | none =>
                    rw [count_set fs i q hfi]
                    have := length_putF f y fvs
                    omega
                  | some p0 =>
                    obtain ⟨v0, hv0, _⟩ := g7 i f p0 hf hfi
                    rw [count_set' fs i p0 q hfi, putF_in hv0]
                    exact g5
              · by_cases hii : i = i'
                · subst hii
                  rw [List.getElem?_set_self hil] at q2
                  cases q2
                · rw [List.getElem?_set_ne hii] at q2
                  have hne : f' ≠ f := fun e => hii (by
                    subst e
                    exact ((List.getElem?_inj h1 gN).mp (by rw [hf, q1])))
                  rw [lookup_putF, if_neg hne]
                  exact gn i' f' q1 q2
              · by_cases hii : i = i'
                · subst hii
                  rw [List.getElem?_set_self hil] at q2
                  cases q2
                  rw [hf] at q1
                  cases q1
                  exact ⟨y, by rw [lookup_putF, if_pos rfl], hrq⟩
                · rw [List.getElem?_set_ne hii] at q2
                  have hne : f' ≠ f := fun e => hii (by
                    subst e
                    exact ((List.getElem?_inj h1 gN).mp (by rw [hf, q1])))
                  obtain ⟨v, hv, rv⟩ := g7 i' f' p' q1 q2
                  refine ⟨v, by rw [lookup_putF, if_neg hne]; exact hv, ?_⟩
                  have := Rp.ext hE p' v rv
                  rwa [own_setF hM] at this
          · cases h
        · cases h
      · cases h
    · cases h
  · cases h
/-- o.f = e -/
theorem ss_setF {o e : PySem.Expr} {pos pos' : Pos} {co ce : Ev PV} (hK : X.K = G.K) (tok : TabOk T G) (he : PE X e (LE G W ce)) (ho : PE X o (LE G W co)) (hs : swapsWith e (some (.Attribute o f pos')) pos.line X.env = pure false) :
    PS X (.Assign [.Attribute o f pos'] e pos) (LS G W fun sp M => .ofR (ce sp M) sp fun v M1 => .ofR (co sp M1) sp fun p M2 => setFK T sp v p f M2) :=
  (ps_fld ho he hs).w fun D σ H h => by
    obtain ⟨M, ι, sp, m, s, post⟩ := h
    refine ⟨M, ι, sp, m, s, PostS.ofE post s fun v M1 ι1 H1 w m1 e1 r1 post1 => ⟨M1, ι1, sp, m1, s.ext e1, PostS.ofE post1 (s.ext e1) fun p M2 ι2 H2 x m2 e2 r2 post2 => ?_⟩⟩
    unfold setFK at post2
    cases hq : setFP T M2 p f v with
    | none => rw [hq] at post2; exact post2.elim
    | some M3 =>
      rw [hq] at post2
      obtain ⟨a, C, dx, fvs, rfl, h1, h2, h3, h4, h5, h6⟩ := setF_at tok m2 r2 (r1.ext e2) hq
      exact ⟨a, C, dx, fvs, rfl, h1, hK ▸ h2, hK ▸ h3, h4, post2 ι2 _ σ h5 h6 (((s.ext e1).ext e2).ext h6)⟩
theorem putD_at {M M4 : Store} {p q v : PV} {ι : List Addr} {H : Hp} (m : MRel G M ι H) {x y w : V} (rp : Rp G ι H (Own M ι) p x) (rq : Rp G ι H (Own M ι) q y) (rv : Rp G ι H (Own M ι) v w) (h : putDP M p q v = some M4) :
    ∃ a H', x = .ref a ∧ DPut H a y w H' ∧ MRel G M4 ι H' ∧ Ext M ι H M4 ι H' := by
  unfold putDP at h
  split at h
  · rename_i n
    split at h
    · rename_i kvs hk
      split at h
      · rename_i k hq
        split at h
        · rename_i hz
          cases h
          obtain ⟨a, vs, rfl, h2, h3, h4, h5, h6⟩ := m.dctAt hk rp
          have := keyP_rp hq rq
          subst this
          obtain ⟨ws, e1, e2⟩ := putA_zip k rv h6
          have hl : kvs.length = vs.length := by have := h6.length; rwa [List.length_map] at this
          have hE := Ext.write (H := H) (u := .dK (putK ((kvs.map (·.1)).zip vs) k w)) (o' := .dct (putA kvs k v)) h3 h2
          refine ⟨a, _, rfl, .k h4 (by rw [List.length_zip, List.length_map]; omega), m.write h3 h2 ⟨ws, by rw [upd_same, e1], by have := putA_len kvs k v; omega, ?_⟩, hE⟩
          have hr := Rps.ext hE _ _ e2
          rwa [own_setF h3] at hr
        · cases h
      · cases h
    · cases h
  · cases h
/-- o[i] = e, o a dict -/
theorem ss_putD {o e i : PySem.Expr} {pos pos' : Pos} {co ce ci : Ev PV} (hu : X.A.units + 1 < cLine) (he : PE X e (LE G W ce)) (ho : PE X o (LE G W co)) (hi : PE X i (LE G W ci)) :
    PS X (.Assign [.Subscript o i pos'] e pos) (LS G W fun sp M => .ofR (ce sp M) sp fun v M1 => .ofR (co sp M1) sp fun p M2 => .ofR (ci sp M2) sp fun q M3 => putK' sp v p q M3) :=
  (ps_dput hu ho hi he (by unfold swapsWith; cases e <;> rfl)).w fun D σ H h => by
    obtain ⟨M, ι, sp, m, s, post⟩ := h
    refine ⟨M, ι, sp, m, s, PostS.ofE post s fun v M1 ι1 H1 w m1 e1 r1 post1 => ⟨M1, ι1, sp, m1, s.ext e1, PostS.ofE post1 (s.ext e1) fun p M2 ι2 H2 x m2 e2 r2 post2 => ⟨M2, ι2, sp, m2, (s.ext e1).ext e2, PostS.ofE post2 ((s.ext e1).ext e2) fun q M3 ι3 H3 y m3 e3 r3 post3 => ?_⟩⟩⟩
    unfold putK' at post3
    cases hq : putDP M3 p q v with
    | none => rw [hq] at post3; exact post3.elim
    | some M4 =>
      rw [hq] at post3
      obtain ⟨a, H', rfl, h1, h2, h3⟩ := putD_at m3 (r2.ext e3) r3 ((r1.ext e2).ext e3) hq
      exact ⟨a, H', rfl, h1, post3 ι3 _ σ h2 h3 ((((s.ext e1).ext e2).ext e3).ext h3)⟩
/-! ### targets that may change objects -/
def noEnds (Q : St → Hp → Prop) : Ends := { nx := Q, rt := fun _ _ => False, bk := fun _ _ => False, ct := fun _ _ => False }
def LU (G : Gd) (W : WX) (c : PV → Ex) : TG := fun v σ H Q => ∃ M ι sp p, MRel G M ι H ∧ SRep G M ι H sp σ ∧ Rp G ι H (Own M ι) p v ∧ PostS G W (noEnds Q) M ι H (c p sp M)
def LUs (G : Gd) (W : WX) (c : List PV → Ex) : TGs := fun vs σ H Q => ∃ M ι sp ps, MRel G M ι H ∧ SRep G M ι H sp σ ∧ Rps G ι H (Own M ι) ps vs ∧ PostS G W (noEnds Q) M ι H (c ps sp M)
theorem su_name {i : Nat} {x : Str} (hN : X.N.Nodup) (hi : X.N[i]? = some x) (hx : Loc X.env.scope x) (hf : X.fn x = true ∨ X.env.scope.names.lookup x = some .local) : PG X (.Name x pos) (LU G W (asg1U T Γ (.name i))) :=
  (pg_name hN hi hx hf).w fun v σ H Q h => by
    obtain ⟨M, ι, sp, p, m, s, r, post⟩ := h
    simp only [asg1U, nameK] at post
    split at post
    · exact post ι H _ m .refl (s.set r i)
    · exact post.elim
/-- o.f = v, a target -/
theorem pg_fld {o : PySem.Expr} {to : TE} {pos' : Pos} (ho : PE X o to) : PG X (.Attribute o f pos') (fun v σ H Q => to σ H fun x H1 => ∃ a C dx fs, x = .ref a ∧ H1 a = some (.ins C dx fs) ∧ Cls X.K C ∧ NoAttr X.K C f ∧ fs.length < 1000 ∧ Q σ (upd H1 a (.ins C dx (putF f v fs)))) := by
  refine ⟨fun pins s σ H v u Q I rv h => ?_⟩
  show wpAny _ _ (do
    let ov ← holding [u] (eval o X.env)
    standAt pos'.atName
    holding [u, ov] (setAttr ov f u)
    release [u, ov] []) _ _ _
  refine wpAny_bind (wpAny_holding (thn (ho.run pins s σ H _ I h) fun ov s1 ⟨x, H1, I1, rx, a, C, dx, fs, ex, ea, c, n, l, q⟩ => ?_))
  subst ex
  obtain rfl : ov = Value.ref a := rx
  refine wpAny_bind (wpAny_standAt (wpAny_bind (wpAny_holding ?_)))
  refine setattr_ok I1 ea c n l rv fun s3 I3 => ?_
  exact wpAny_release ⟨σ, _, I3, q⟩
theorem su_fld {o : PySem.Expr} {co : Ev PV} (hK : X.K = G.K) (tok : TabOk T G) (hco : co = ev T Γ ocE) (ho : PE X o (LE G W co)) : PG X (.Attribute o f pos) (LU G W (asg1U T Γ (.fld ocE f))) :=
  (pg_fld ho).w fun v σ H Q h => by
    obtain ⟨M, ι, sp, p, m, s, r, post⟩ := h
    simp only [asg1U] at post
    rw [← hco] at post
    refine ⟨M, ι, sp, m, s, PostS.ofE post s fun q M1 ι1 H1 x m1 e1 r1 post1 => ?_⟩
    unfold setFK at post1
    cases hq : setFP T M1 q f p with
    | none => rw [hq] at post1; exact post1.elim
    | some M3 =>
      rw [hq] at post1
      obtain ⟨a, C, dx, fvs, rfl, h1, h2, h3, h4, h5, h6⟩ := setF_at tok m1 r1 (r.ext e1) hq
      exact ⟨a, C, dx, fvs, rfl, h1, hK ▸ h2, hK ▸ h3, h4, post1 ι1 _ σ h5 h6 ((s.ext e1).ext h6)⟩
theorem su_sub {o i : PySem.Expr} {oc ic : CE} (ho : PE X o (LE G W (ev T Γ oc))) (hi : PE X i (LE G W (ev T Γ ic))) (hn : notSlice i = true) : PG X (.Subscript o i pos) (LU G W (asg1U T Γ (.sub oc ic))) :=
  (pg_sub ho hi set_list (by intro v; cases i <;> first | rfl | cases hn)).w fun v σ H Q h => by
    obtain ⟨M, ι, sp, p, m, s, r, post⟩ := h
    simp only [asg1U] at post
    refine ⟨M, ι, sp, m, s, PostS.ofE post s fun q M1 ι1 H1 x m1 e1 r1 post1 => ⟨M1, ι1, sp, m1, s.ext e1, PostS.ofE post1 (s.ext e1) fun k M2 ι2 H2 y m2 e2 r2 post2 => ?_⟩⟩
    unfold setK at post2
    split at post2
    · rename_i M4 hs
      obtain ⟨a, xs, kk, j, rfl, rfl, h1, h2, h3, h4⟩ := setP_at m2 (r1.ext e2) r2 ((r.ext e1).ext e2) hs
      exact ⟨a, xs, kk, j, rfl, rfl, h1, h2, post2 ι2 _ σ h3 h4 (((s.ext e1).ext e2).ext h4)⟩
    · exact post2.elim
theorem sus_nil : PGs X [] (LUs G W (asgUs T Γ [])) := pgs_nil.w fun v σ H Q h => by
  obtain ⟨M, ι, sp, ps, m, s, r, post⟩ := h
  cases r with
  | nil => exact ⟨rfl, post ι H σ m .refl s⟩
  | cons r0 r1 => exact post.elim
theorem PostS.seqU {Q : St → Hp → Prop} {Q1 : St → Hp → Prop} {M : Store} {ι : List Addr} {H : Hp} {r : SRes} {k : Ex} (h : PostS G W (noEnds Q) M ι H (r.seq k))
    (hq : ∀ sp M1 ι1 H1 σ1, MRel G M1 ι1 H1 → Ext M ι H M1 ι1 H1 → SRep G M1 ι1 H1 sp σ1 → PostS G W (noEnds Q) M1 ι1 H1 (k sp M1) → Q1 σ1 H1) : PostS G W (noEnds Q1) M ι H r := by
  cases r with
  | nx sp M1 => exact fun ι1 H1 σ1 a b c => hq sp M1 ι1 H1 σ1 a b c (PostS.from (r := k sp M1) h b)
  | ret p M1 => exact h
  | brk sp M1 => exact h
  | cnt sp M1 => exact h
  | exc x sp M1 => exact h
  | bad => exact h
theorem sus_cons {e : PySem.Expr} {es : List PySem.Expr} {t : UT} {ts : List UT} (hn : notStar e = true) (h1 : PG X e (LU G W (asg1U T Γ t))) (h2 : PGs X es (LUs G W (asgUs T Γ ts))) : PGs X (e :: es) (LUs G W (asgUs T Γ (t :: ts))) :=
  (pgs_cons h1 h2 (by rw [each_cons hn]; rfl)).w fun v σ H Q h => by
    obtain ⟨M, ι, sp, ps, m, s, r, post⟩ := h
    cases r with
    | nil => exact post.elim
    | cons r rr =>
      rename_i p v ps vs
      simp only [asgUs] at post
      exact ⟨v, vs, rfl, M, ι, sp, p, m, s, r, PostS.seqU post fun sp1 M1 ι1 H1 σ1 m1 e1 s1 post1 => ⟨M1, ι1, sp1, ps, m1, s1, Rps.ext e1 _ _ rr, post1⟩⟩
theorem ofR_ends {α : Type} {P : SRes → Prop} {r : Res α} {sp : Sl} {k : α → Store → SRes} (hb : P .bad) (hx : ∀ x sp M, P (.exc x sp M)) (hk : ∀ a M, P (k a M)) : P (.ofR r sp k) := by
  cases r with
  | ok a M => exact hk a M
  | exc x M => exact hx _ _ _
  | bad => exact hb
def OnlyNx : SRes → Prop
  | .ret .. => False
  | .brk .. => False
  | .cnt .. => False
  | _ => True
theorem setFK_only {T : Tab} {sp : Sl} {v p : PV} {f : Str} {M : Store} : OnlyNx (setFK T sp v p f M) := by
  unfold setFK
  split <;> trivial
theorem setK_only {sp : Sl} {v p q : PV} {M : Store} : OnlyNx (setK sp v p q M) := by
  unfold setK
  split <;> trivial
theorem asg1U_only : ∀ (t : UT) (p : PV) (sp : Sl) (M : Store), OnlyNx (asg1U T Γ t p sp M)
  | .name i, p, sp, M => by
    simp only [asg1U, nameK]
    split <;> trivial
  | .fld o f, p, sp, M => by
    simp only [asg1U]
    exact ofR_ends (P := OnlyNx) trivial (fun _ _ _ => trivial) fun a M => setFK_only
  | .sub o i, p, sp, M => by
    simp only [asg1U]
    exact ofR_ends (P := OnlyNx) trivial (fun _ _ _ => trivial) fun a M => ofR_ends (P := OnlyNx) trivial (fun _ _ _ => trivial) fun a M => setK_only
theorem asgUs_only : ∀ (ts : List UT) (ps : List PV) (sp : Sl) (M : Store), OnlyNx (asgUs T Γ ts ps sp M)
  | [], [], _, _ => trivial
  | [], _ :: _, _, _ => trivial
  | _ :: _, [], _, _ => trivial
  | t :: ts, p :: ps, sp, M => by
    simp only [asgUs]
    have h := asg1U_only (T := T) (Γ := Γ) t p sp M
    cases e : asg1U T Γ t p sp M with
    | nx sp1 M1 => exact asgUs_only ts ps sp1 M1
    | ret p M1 => rw [e] at h; exact h.elim
    | brk sp1 M1 => rw [e] at h; exact h.elim
    | cnt sp1 M1 => rw [e] at h; exact h.elim
    | exc x sp1 M1 => trivial
    | bad => trivial
theorem PostS.only {D : Ends} {M : Store} {ι : List Addr} {H : Hp} {r : SRes} (h : PostS G W D M ι H r) (o : OnlyNx r) : PostS G W (noEnds D.nx) M ι H r := by
  cases r with
  | nx sp M1 => exact h
  | ret p M1 => exact o.elim
  | brk sp M1 => exact o.elim
  | cnt sp M1 => exact o.elim
  | exc x sp M1 => exact h
  | bad => exact h
/-- a, b = e with targets of any kind -/
theorem ss_asgU {es : List PySem.Expr} {kk : Nat} {tpos pos : Pos} {e : PySem.Expr} {ts : List UT} {ce : CE} (hK : X.K = G.K) (hc : X.calm = true) (hl : es.length = ts.length) (hns : es.all notStar = true) (he : PE X e (LE G W (ev T Γ ce))) (hg : PGs X es (LUs G W (asgUs T Γ ts)))
    (hs : swapsWithSole [.Tuple es kk tpos] e pos.line X.env = pure false) (hw : swappedStores [.Tuple es kk tpos] e X.env = pure none) : PS X (.Assign [.Tuple es kk tpos] e pos) (LS G W (ex T Γ (.asgU ts ce))) :=
  (ps_asg he (pg_tup (n := ts.length) hc hg (by rw [each_len, hl]) (each_none hns)) hs hw rfl).w fun D σ H h => by
    obtain ⟨M, ι, sp, m, s, post⟩ := h
    simp only [ex] at post
    refine ⟨M, ι, sp, m, s, PostS.ofE post s fun p M1 ι1 H1 v m1 e1 r1 post1 => ?_⟩
    unfold asgUK at post1
    split at post1
    · rename_i ps
      split at post1
      · rename_i hlen
        cases r1 with
        | tup h1 h2 h3 =>
          have := h3.length
          exact ⟨_, _, rfl, hK ▸ h1.sq, by omega, M1, ι1, sp, ps, m1, s.ext e1, h3, post1.only (asgUs_only ts ps sp M1)⟩
      · exact post1.elim
    · exact post1.elim
end
end DI
set_option maxHeartbeats 4000000
/-! # DI: raise, try; the test of statements -/
namespace DI
open PySem PySem.Spec L2

/-- X(), X an own exception class without own __init__ -/
theorem pmk_own0 {X : Cx} {C : Addr} {bmB : List Value} {B newId initId : String} {x : Str} {p pos : Pos} (F : ExcBaseFacts B newId initId bmB) (q : PySem.W.excIn X.K C bmB newId = true) (gC : X.mg x = some (.ref C))
    (kC : PySem.W.keepIn X.K (.ref C) = true) (r : Raises X (.ref C)) (hg : Gl X x) (hdb : (x == ("__debug__" : Str)) = false) :
    L2N.PMk X (.Call (.Name x p) [] [] pos) (fun σ H Q => Q (.ref C) none H) := by
  intro pins s σ H Q I h
  refine wpAny_Call_Name_kw (ld_glob I hg gC ?_ hdb)
  refine PySem.W.callWith_K0 I.kIn kC ?_
  show wpAny _ _ (call (.ref C) []) _ _ _
  obtain ⟨bm, N, nm, qn, bs, hdct, sn, sub, ab, col, dd, k0, k1, k2, k3, k5, mN, hC, hN, hni, T⟩ := exc_obj I.kIn q
  refine wpAny_call_exc_subT F T hC hN hni (fun h' e hm => ?_) (by show 0 ≤ sizeLine; exact Nat.zero_le _)
  exact L2N.mk_of I hm r h (I.hok.gone hm.new)
section
variable {T : Tab} {G : Gd} {Γ : Fns} {W : WX} {X : Cx} {pos : Pos} {e : PySem.Expr} {ce : Ev PV} {cc : Ev Bool} {ca cb : Ex}
theorem ss_raise0 (tok : TabOk T G) (hK : X.K = G.K) (hmg : X.mg = G.mg) (hc : X.calm = true) (tk : Takes X W) {c : Nat} {x : Str} {fs : List Str} {p p2 : Pos} (h1 : T.cnm[c]? = some (x, fs)) (h2 : c ∈ T.ex0) (hg : Gl X x) (hd : dbgB x = true) :
    PS X (.Raise (some (.Call (.Name x p) [] [] p2)) none pos) (LS G W fun sp M => .exc ⟨c, [], false⟩ sp M) := by
  obtain ⟨C, bmB, B, newId, initId, F, k1, k2, k3, k4, k5⟩ := tok.ex0 c h2 x fs h1
  refine (L2N.ps_raise hc tk.n (pmk_own0 F (by rw [hK]; exact k1) (by rw [hmg]; exact k2) (by rw [hK]; exact k3) (raises_own (by rw [hK]; exact k4) (by rw [hK]; exact k5)) hg (dbg1 hd))).w fun D σ H h => ?_
  obtain ⟨M, ι, sp, m, s, post⟩ := h
  exact post ι H σ (.ref C) none m .refl s ⟨x, fs, C, (tok.cnm c x fs h1).1, k2, rfl, fun i p z => by simp at z⟩
theorem ss_raise2 (tok : TabOk T G) (hK : X.K = G.K) (hmg : X.mg = G.mg) (hP : X.prog = G.P) (hr : Room 2 X.A) (hc : X.calm = true) (tk : Takes X W) {c : Nat} {x : Str} {fs : List Str} {p p2 : Pos} {es : List PySem.Expr} {car : Ev (List PV)} (h1 : T.cnm[c]? = some (x, fs)) (h2 : c ∈ T.ex2) (hg : Gl X x) (hd : dbgB x = true)
    (ha : PA X (e :: es) (LA G W car)) (hns : (e :: es).all notStar = true) (hlen : ∀ sp M ps M1, car sp M = .ok ps M1 → ps.length = 2) :
    PS X (.Raise (some (.Call (.Name x p) (e :: es) [] p2)) none pos) (LS G W fun sp M => .ofR (car sp M) sp fun ps M1 => .exc ⟨c, ps, false⟩ sp M1) := by
  obtain ⟨f1, f2, rfl, C, fI, fd, nps, k1, k2, k3, k4, k5, k6, k7, k8, k9, k10⟩ := tok.ex2 c h2 x fs h1
  have F1 : FnOk X.prog X.w X.K X.mg X.base noCX 1 fI fd nps (sp2 C f1 f2) := by rw [hP, hK, hmg]; exact k10 X.w X.base
  have hns' := hns
  rw [List.all_cons, Bool.and_eq_true] at hns'
  refine (L2N.ps_raise hc tk.n (pmk_twoN (by rw [hK]; exact k3) (by rw [hK]; exact k7) (by rw [hK]; exact k8) F1 hr (by rw [hK]; exact k9) hg (by rw [hmg]; exact k1) ha (dbg1 hd) (star_cons hns'.1) (star_none hns'.2))).w fun D σ H h => ?_
  obtain ⟨M, ι, sp, m, s, post⟩ := h
  have post : PostS G W D M ι H (SRes.ofR (car sp M) sp fun ps M1 => SRes.exc ⟨c, ps, false⟩ sp M1) := post
  refine ⟨M, ι, sp, m, s, ?_⟩
  cases er : car sp M with
  | bad => rw [er] at post; exact post
  | exc x1 M1 =>
    rw [er] at post
    exact fun ι' H' cv d a b c => post ι' H' σ cv d a b (s.ext b) c
  | ok qs M1 =>
    have hl := hlen sp M qs M1 er
    rw [er] at post
    intro ι1 H1 vs m1 e1 r1
    obtain ⟨q1, q2, rfl⟩ : ∃ q1 q2, qs = [q1, q2] := by
      match qs, hl with
      | [q1, q2], _ => exact ⟨q1, q2, rfl⟩
    obtain ⟨u, v, rfl, ru, rv⟩ := r1.two
    refine mk2_of (Q := fun cls d H' => W.n cls d σ H') fun d hn => ?_
    have e2 : Ext M1 ι1 H1 M1 ι1 (upd H1 d (.xd [(f2, v), (f1, u)])) := Ext.new hn
    refine post ι1 _ σ (.ref C) (some d) (m1.new hn) (e1.trans e2) (s.ext (e1.trans e2)) ⟨x, [f1, f2], C, (tok.cnm c x _ h1).1, k1, rfl, fun i p hp => ?_⟩
    have nb : (f1 == f2) = false := by simpa using k2
    match i, hp with
    | 0, hp =>
      cases hp
      exact ⟨f1, d, _, u, rfl, rfl, upd_same, by simp [List.lookup, nb], ru.ext e2⟩
    | 1, hp =>
      cases hp
      exact ⟨f2, d, _, v, rfl, rfl, upd_same, by simp [List.lookup], rv.ext e2⟩
end
end DI
set_option maxHeartbeats 8000000
/-! # DI: the test of statements and what it says -/
namespace DI
open PySem PySem.Spec L2

/-- the stores are not swapped -/
def notLoc (sc : Scope) : PySem.Expr → Bool
  | .Name x _ => !decide (sc.names.lookup x = some .local)
  | _ => true
def swNone (sc : Scope) (tg e : PySem.Expr) : Bool := match tg, e with
  | .Tuple ts _ _, .Tuple vs _ _ => !(ts.length == 2 || ts.length == 3) || vs.length != ts.length || vs.all (foldedForSure 8) || ts.any (notLoc sc)
  | .List .., .Tuple .. => false
  | _, _ => true
theorem swNone_ok {sc : Scope} {tg e : PySem.Expr} {env : Env} (hs : env.scope = sc) (h : swNone sc tg e = true) : swappedStores [tg] e env = pure none := by
  unfold swNone at h
  split at h
  · rename_i ts k p vs k2 p2
    simp only [swappedStores, pure_bind]
    simp only [Bool.or_eq_true] at h
    rcases h with ((h | h) | h) | h
    · rw [if_pos (by rw [h]; rfl)]
    · by_cases h1 : (!(ts.length == 2 || ts.length == 3) || vs.length != ts.length || env.blockKind != .function) = true
      · rw [if_pos h1]
      · exact absurd (by rw [h]; simp) h1
    · split
      · rfl
      · split
        · rfl
        · split
          · rfl
          · first | rfl | rw [if_pos h]
    · split
      · rfl
      · split
        · rfl
        · split
          · rfl
          · rename_i hz
            exfalso
            refine hz ?_
            rw [Bool.or_eq_true, bne_iff_ne]
            refine .inl (Nat.ne_of_lt (List.length_filterMap_lt_length_iff_exists.mpr ?_))
            obtain ⟨t, ht, ht2⟩ := List.any_eq_true.mp h
            refine ⟨t, ht, ?_⟩
            cases t <;> first
              | rfl
              | (rename_i y p
                 have hk : env.kindOf y = sc.names.lookup y := by show env.scope.names.lookup y = _; rw [hs]
                 have hn : ¬ (sc.names.lookup y = some .local) := by simpa [notLoc] using ht2
                 have hb : (env.kindOf y == some NameKind.local) = false := by
                   rw [hk]
                   cases hx : sc.names.lookup y with
                   | none => rfl
                   | some k =>
                     cases k <;> first | rfl | exact absurd hx hn
                 simp [hb])
  · cases h
  · rename_i h1 h2
    cases tg <;> first
      | rfl
      | (cases e <;> first
          | rfl
          | exact (h1 _ _ _ _ _ _ rfl rfl).elim
          | exact (h2 _ _ _ _ _ rfl rfl).elim)
/-- names of plain locals, swapped -/
def parB (sc : Scope) (px py : Pos) (x y : Str) (vs : List PySem.Expr) : Bool :=
  decide (sc.names.lookup x = some .local) && decide (sc.names.lookup y = some .local) && (py.line == px.line) && !(x == y) && vs.all notStar && !(vs.all (foldedForSure 8)) && !(vs.all (constantsAlone 8))
theorem starB {a : PySem.Expr} : (match a with | .Starred .. => true | _ => false) = !notStar a := by cases a <;> rfl
theorem par2_ok {sc : Scope} {env : Env} {px py pt pt2 : Pos} {x y : Str} {a b : PySem.Expr} {kt k2 : Nat} (hs : env.scope = sc) (hk : sc.kind = .function) (h : parB sc px py x y [a, b] = true) :
    swappedStores [.Tuple [.Name x px, .Name y py] kt pt] (.Tuple [a, b] k2 pt2) env = pure (some [x, y]) := by
  unfold parB at h
  simp only [Bool.and_eq_true, decide_eq_true_eq, Bool.not_eq_true', List.all_cons, List.all_nil, Bool.and_true] at h
  obtain ⟨⟨⟨⟨⟨⟨h1, h2⟩, h3⟩, h4⟩, h5, h5'⟩, h6⟩, h7⟩ := h
  have kx : env.kindOf x = some .local := by show env.scope.names.lookup x = _; rw [hs]; exact h1
  have ky : env.kindOf y = some .local := by show env.scope.names.lookup y = _; rw [hs]; exact h2
  have hb : env.blockKind = .function := by unfold Env.blockKind; rw [hs, hk]; rfl
  have hne : x ≠ y := fun e => by subst e; simp at h4
  simp only [swappedStores, pure_bind]
  simp only [hb, List.any_cons, List.any_nil, starB, h5, h5', List.filterMap_cons, List.filterMap_nil, kx, ky, List.head?_cons, Option.map_some, Option.getD_some, PySem.Expr.pos, h3, List.all_cons, List.all_nil, Bool.and_true]
  simp [h6, h7, List.eraseDups_cons, hne, Ne.symm hne]
  clear h6 h7
  rintro (z | z)
  · cases a <;> first | exact absurd h5 Bool.false_ne_true | exact absurd z Bool.false_ne_true
  · cases b <;> first | exact absurd h5' Bool.false_ne_true | exact absurd z Bool.false_ne_true
theorem par3_ok {sc : Scope} {env : Env} {px py pz pt pt2 : Pos} {x y z : Str} {a b c : PySem.Expr} {kt k2 : Nat} (hs : env.scope = sc) (hk : sc.kind = .function) (h : parB sc px py x y [a, b, c] = true) (hz : parB sc px pz x z [a, b, c] = true) (hyz : (y == z) = false) :
    swappedStores [.Tuple [.Name x px, .Name y py, .Name z pz] kt pt] (.Tuple [a, b, c] k2 pt2) env = pure (some [x, y, z]) := by
  unfold parB at h hz
  simp only [Bool.and_eq_true, decide_eq_true_eq, Bool.not_eq_true', List.all_cons, List.all_nil, Bool.and_true] at h hz
  obtain ⟨⟨⟨⟨⟨⟨h1, h2⟩, h3⟩, h4⟩, h5, h5', h5''⟩, h6⟩, h7⟩ := h
  obtain ⟨⟨⟨⟨⟨⟨_, g2⟩, g3⟩, g4⟩, _⟩, _⟩, _⟩ := hz
  have kx : env.kindOf x = some .local := by show env.scope.names.lookup x = _; rw [hs]; exact h1
  have ky : env.kindOf y = some .local := by show env.scope.names.lookup y = _; rw [hs]; exact h2
  have kz : env.kindOf z = some .local := by show env.scope.names.lookup z = _; rw [hs]; exact g2
  have hb : env.blockKind = .function := by unfold Env.blockKind; rw [hs, hk]; rfl
  have hne : x ≠ y := fun e => by subst e; simp at h4
  have hne2 : x ≠ z := fun e => by subst e; simp at g4
  have hne3 : y ≠ z := fun e => by subst e; simp at hyz
  simp only [swappedStores, pure_bind]
  simp only [hb, List.any_cons, List.any_nil, starB, h5, h5', h5'', List.filterMap_cons, List.filterMap_nil, kx, ky, kz, List.head?_cons, Option.map_some, Option.getD_some, PySem.Expr.pos, h3, g3, List.all_cons, List.all_nil, Bool.and_true]
  simp [h6, h7, List.eraseDups_cons, hne, hne2, hne3, Ne.symm hne, Ne.symm hne2, Ne.symm hne3]
  clear h6 h7
  rintro (z | z | z)
  · cases a <;> first | exact absurd h5 Bool.false_ne_true | exact absurd z Bool.false_ne_true
  · cases b <;> first | exact absurd h5' Bool.false_ne_true | exact absurd z Bool.false_ne_true
  · cases c <;> first | exact absurd h5'' Bool.false_ne_true | exact absurd z Bool.false_ne_true
/-- .. name = [..] is taken from the block at once -/
def swLc (sc : Scope) (y : Str) (py lp : Pos) (scope : Scope) : Bool :=
  decide (sc.names.lookup y = some .local) && (py.line == lp.line) && !(scope.names.any fun (n, k) => n == y && (k == .local || k == .cell))
def lcParts : PySem.Expr → Option (Scope × Pos)
  | .ListComp _ _ s p => some (s, p)
  | _ => none
/-- the value is not taken at once -/
def swNo (sc : Scope) (y : Str) (py : Pos) (e : PySem.Expr) : Bool := notComp e || (match lcParts e with
  | some (s, p) => !swLc sc y py p s
  | none => false)
theorem swNo_ok {sc : Scope} {env : Env} {y : Str} {py : Pos} {e : PySem.Expr} {l : Nat} (hs : env.scope = sc) (hk : sc.kind = .function) (h : swNo sc y py e = true) : swapsWith e (some (.Name y py)) l env = pure false := by
  unfold swNo at h
  rw [Bool.or_eq_true] at h
  rcases h with h | h
  · exact swaps_of h
  · split at h
    · rename_i s p hp
      cases e <;> first
        | (cases hp; done)
        | (cases hp
           have hb : (env.blockKind == ScopeKind.function) = true := by unfold Env.blockKind; rw [hs, hk]; rfl
           have hky : env.kindOf y = sc.names.lookup y := by show env.scope.names.lookup y = _; rw [hs]
           unfold swapsWith
           simp only [pure_bind, hb, hky, Bool.true_and, PySem.Expr.pos]
           congr 1
           unfold swLc at h
           simp only [Bool.not_eq_true'] at h
           rw [show ∀ o : Option NameKind, (o == some NameKind.local) = decide (o = some NameKind.local) from fun o => by cases o with | none => rfl | some k => cases k <;> rfl]
           exact h)
    · cases h
def chkU (T : Tab) (N : List Str) (sc : Scope) (t : UT) (e : PySem.Expr) : Bool := match t with
  | .name i => match e with
    | .Name x _ => decide (N[i]? = some x) && locB sc x
    | _ => false
  | .fld o f => match e with
    | .Attribute x g _ => decide (g = f) && chkE T N sc false o x
    | _ => false
  | .sub o i => match e with
    | .Subscript x y _ => notSlice y && chkE T N sc false o x && chkE T N sc false i y
    | _ => false
def chkUs (T : Tab) (N : List Str) (sc : Scope) : List UT → List PySem.Expr → Bool
  | [], [] => true
  | t :: ts, e :: es => notStar e && chkU T N sc t e && chkUs T N sc ts es
  | _, _ => false
section
variable (T : Tab) (N : List Str) (sc : Scope)
mutual
def chkS (c : CS) (st : PySem.Stmt) : Bool := match c with
  | .asg t e => match st with
    | .Assign [tg] v _ => (match t with
      | .name i => match tg with
        | .Name x px => decide (N[i]? = some x) && locB sc x && swNo sc x px v
        | _ => false
      | .tup ts => isTup tg && chkT N sc (fun _ => true) (.tup ts) tg && swNone sc tg v) && chkE T N sc false e v
    | _ => false
  | .asgC i own tg it cd elt => match st with
    | .Assign [.Name x px] (.ListComp y [⟨tx, ix, fx, 0⟩] scope lp) _ => decide (N[i]? = some x) && swLc sc x px lp scope &&
        (!decide (T.lns = some (relS scope sc).names) && blkC N sc scope own && chkT N (relS scope sc) (fun x => scope.names.lookup x == some .cell) tg tx && tg.slots.all (fun i => (own.map (·.2)).any fun j => decide (j = i)) && notSet ix && chkI T N sc it tx ix && chkC T N (relS scope sc) cd fx && chkE T N (relS scope sc) false elt y)
    | _ => false
  | .par ts es => match ts with
    | [i, j] => match st with
      | .Assign [.Tuple [.Name x px, .Name y py] _ _] (.Tuple [a, b] _ _) _ => decide (N[i]? = some x) && decide (N[j]? = some y) && decide (i ≠ j) && parB sc px py x y [a, b] && chkEs T N sc es [a, b]
      | _ => false
    | [i, j, l] => match st with
      | .Assign [.Tuple [.Name x px, .Name y py, .Name z pz] _ _] (.Tuple [a, b, c] _ _) _ => decide (N[i]? = some x) && decide (N[j]? = some y) && decide (N[l]? = some z) && decide (i ≠ j) && decide (i ≠ l) && decide (j ≠ l) && parB sc px py x y [a, b, c] && parB sc px pz x z [a, b, c] && !(y == z) && chkEs T N sc es [a, b, c]
      | _ => false
    | _ => false
  | .asgI o i e => match st with
    | .Assign [.Subscript x y _] v _ => notSlice y && chkE T N sc false e v && chkE T N sc false o x && chkE T N sc false i y
    | _ => false
  | .setF o f e => match st with
    | .Assign [.Attribute x g _] v _ => decide (g = f) && chkE T N sc false e v && chkE T N sc false o x
    | _ => false
  | .putD o i e => match st with
    | .Assign [.Subscript x y _] v _ => notSlice y && chkE T N sc false e v && chkE T N sc false o x && chkE T N sc false i y
    | _ => false
  | .asgU ts e => match st with
    | .Assign [.Tuple es kk tp] v _ => es.all notStar && decide (es.length = ts.length) && swNone sc (.Tuple es kk tp) v && chkE T N sc false e v && chkUs T N sc ts es
    | _ => false
  | .aug i op e => match st with
    | .AugAssign (.Name x _) op' v _ => decide (N[i]? = some x) && locB sc x && decide (op = op') && chkE T N sc false e v
    | _ => false
  | .augI o i op e => match st with
    | .AugAssign (.Subscript x y _) op' v _ => notSlice y && decide (op = op') && chkE T N sc false o x && chkE T N sc false i y && chkE T N sc false e v
    | _ => false
  | .expr e => match st with
    | .Expr x _ => notComp x && chkE T N sc false e x
    | _ => false
  | .ret e => match st with
    | .Return (some x) _ => chkE T N sc false e x
    | _ => false
  | .retN => match st with
    | .Return none _ => true
    | _ => false
  | .ite c a b => match st with
    | .If t x y _ => chkE T N sc true c t && chkSs a x && chkSs b y
    | _ => false
  | .forS t it body => match st with
    | .For tg ix b [] _ => chkT N sc (fun _ => true) t tg && notSet ix && chkI T N sc it tg ix && chkSs body b
    | _ => false
  | .whileS c body => match st with
    | .While t b [] _ => chkE T N sc true c t && chkSs body b
    | _ => false
  | .raise c es => match es with
    | .nil => match st with
      | .Raise (some (.Call (.Name x _) [] [] _)) none _ => (match T.cnm[c]? with
        | some (y, _) => decide (x = y)
        | none => false) && T.ex0.any (fun d => decide (d = c)) && glB sc x && dbgB x
      | _ => false
    | es => match st with
      | .Raise (some (.Call (.Name x _) (e :: rest) [] _)) none _ => (match T.cnm[c]? with
        | some (y, _) => decide (x = y)
        | none => false) && T.ex2.any (fun d => decide (d = c)) && glB sc x && dbgB x && (e :: rest).all notStar && decide (cesLen es = some 2) && chkEs T N sc es (e :: rest)
      | _ => false
  | .tryS body hs => match st with
    | .Try b (h :: hds) [] [] _ => chkSs body b && (chkHs T N sc hs (h :: hds) || (match hs with
      | [h1] => hds.isEmpty && chkTX T sc h1 h
      | _ => false))
    | _ => false
  | .pass => match st with
    | .Pass _ => true
    | _ => false
  | .brk => match st with
    | .Break _ => true
    | _ => false
  | .cnt => match st with
    | .Continue _ => true
    | _ => false
def chkSs (c : CSs) (st : List PySem.Stmt) : Bool := match c with
  | .nil => st.isEmpty
  | .cons c r => match st with
    | s :: st => chkS c s && chkSs r st
    | [] => false
end
end
end DI
set_option maxHeartbeats 8000000
/-! # DI: statements are sound -/
namespace DI
open PySem PySem.Spec L2

structure GoodS (G : Gd) (Γ : Fns) (N : List Str) (sc : Scope) (X : Cx) : Prop where
  good : Good G Γ N sc (fun _ => true) X
  pass : PassesOwn (model X.prog X.w) X.A X.env X.xe
  stk : X.stack = X.env :: X.outer
  frm : X.env.frame = some X.env.locals
  kind : sc.kind = .function
  passA : ∀ hd : Option Value, PassesOwnAt (model X.prog X.w) (X.A.mark hd) X.A X.env X.xe
section
variable {T : Tab} {G : Gd} {Γ : Fns} {N : List Str} {sc : Scope}
theorem GoodS.tr {X : Cx} (g : GoodS G Γ N sc X) {pn : List (Addr × Obj)} {xe : Value → Shared → Prop} (h : PassesOwn (model X.prog X.w) X.A X.env xe) (ha : ∀ hd : Option Value, PassesOwnAt (model X.prog X.w) (X.A.mark hd) X.A X.env xe) : GoodS G Γ N sc (X.tr pn xe) :=
  ⟨⟨g.good.hK, g.good.hmg, g.good.hP, g.good.hN, g.good.nd, g.good.hs, g.good.calm, g.good.gds, g.good.un, g.good.st, let ⟨k, h1, h2, h3⟩ := g.good.fns; ⟨k, h1, h2, fun c P q ns e z => let L := h3 c P q ns e z; ⟨L.room, L.code, L.qual, L.tab⟩⟩⟩, h, g.stk, g.frm, g.kind, ha⟩
theorem hfn {X : Cx} (g : GoodS G Γ N sc X) (x : Str) : X.fn x = true ∨ X.env.scope.names.lookup x = some .local := .inl (g.good.st x rfl)
theorem GoodS.nd {X : Cx} (g : GoodS G Γ N sc X) : X.N.Nodup := by
  have h := g.good.nd
  rw [← g.good.hN] at h
  exact h
theorem ix0 {i : Nat} {x : Str} {X : Cx} (g : GoodS G Γ N sc X) (h : N[i]? = some x) : X.N[i]? = some x := by rw [g.good.hN]; exact h
theorem chkU_ok (tok : TabOk T G) {X : Cx} {W : WX} (g : GoodS G Γ N sc X) (tk : Takes X W) : ∀ (t : UT) (e : PySem.Expr), chkU T N sc t e = true → PG X e (LU G W (asg1U T Γ t))
  | .name i, e, h => by
    simp only [chkU] at h
    split at h
    · rw [Bool.and_eq_true] at h
      exact su_name g.nd (g.good.ix h.1) (by rw [g.good.hs]; exact loc_of h.2) (hfn g _)
    · cases h
  | .fld o f, e, h => by
    simp only [chkU] at h
    split at h
    · rw [Bool.and_eq_true] at h
      have h1 := of_decide_eq_true h.1
      subst h1
      exact su_fld g.good.hK tok rfl (chkE_ok tok o sc false _ h.2 _ X W g.good tk).1
    · cases h
  | .sub o i, e, h => by
    simp only [chkU] at h
    split at h
    · obtain ⟨h1, h2, h3⟩ := and3 h
      exact su_sub (chkE_ok tok o sc false _ h2 _ X W g.good tk).1 (chkE_ok tok i sc false _ h3 _ X W g.good tk).1 h1
    · cases h
theorem chkUs_ok (tok : TabOk T G) {X : Cx} {W : WX} (g : GoodS G Γ N sc X) (tk : Takes X W) : ∀ (ts : List UT) (es : List PySem.Expr), chkUs T N sc ts es = true → PGs X es (LUs G W (asgUs T Γ ts))
  | [], [], _ => sus_nil
  | [], _ :: _, h => by simp [chkUs] at h
  | _ :: _, [], h => by simp [chkUs] at h
  | t :: ts, e :: es, h => by
    simp only [chkUs, Bool.and_eq_true] at h
    exact sus_cons h.1.1 (chkU_ok tok g tk t e h.1.2) (chkUs_ok tok g tk ts es h.2)
theorem runS_hot {D : Ends} {M : Store} {ι : List Addr} {H : Hp} {W : WX} {x : Exc} {su : HS} {sp : Sl} (h : PostS G W D M ι H (runS x su sp M)) : PostS G (.two W.c) D M ι H (runS x su sp M) := by
  cases su with
  | ret e =>
    simp only [runS] at h ⊢
    split at h
    · exact h
    · exact h.elim
  | raise c =>
    simp only [runS] at h ⊢
    split
    · rename_i hx
      rw [if_pos hx] at h
      exact h
    · rename_i hx
      rw [if_neg hx] at h
      exact h
  | cont => exact h
  | pass => exact h
/-- what leaves the clauses may bear another one -/
theorem PostS.hot {D : Ends} {M : Store} {ι : List Addr} {H : Hp} {W : WX} {exm : List (Nat × Nat × Bool)} {x : Exc} {sp : Sl} : ∀ {hs : List HC}, PostS G W D M ι H (runH exm x sp M hs) → PostS G (.two W.c) D M ι H (runH exm x sp M hs)
  | [], h => h
  | h0 :: hs, h => by
    simp only [runH] at h ⊢
    split
    · rename_i he
      rw [he] at h
      dsimp only at h
      split
      · rename_i hn
        rw [hn] at h
        exact runS_hot h
      · rename_i i hn
        rw [hn] at h
        dsimp only at h
        split
        · rename_i hc
          rw [if_pos hc] at h
          exact runS_hot h
        · rename_i hc
          rw [if_neg hc] at h
          exact h.elim
    · rename_i he
      rw [he] at h
      exact PostS.hot h
    · rename_i he
      rw [he] at h
      exact h.elim
theorem nm_of {T : Tab} {c : Nat} {x : Str} (h : (match T.cnm[c]? with
    | some (y, _) => decide (x = y)
    | none => false) = true) : ∃ fs, T.cnm[c]? = some (x, fs) := by
  split at h
  · rename_i y fs hy
    have h := of_decide_eq_true h
    subst h
    exact ⟨fs, hy⟩
  · cases h
theorem chkTy_ok (tok : TabOk T G) {X : Cx} {fb : Str → Bool} (g : Good G Γ N sc fb X) {c : Nat} {c2 : Option Nat} {ty : PySem.Expr} (h : chkTy T sc c c2 ty = true) :
    ∃ cs, ClsX X ty cs ∧ ∀ {x : Exc} {t : Bool} {cv : Value} {d : Option Addr} {ι : List Addr} {H : Hp} {O : Addr → Prop}, XRep G ι H O x cv d → excM2 T.exm x.cls c c2 = some t → exmC X.K cv cs = some t := by
  unfold chkTy at h
  split at h
  · split at h
    · obtain ⟨h1, h2, h3⟩ := and3 h
      obtain ⟨fs, hy⟩ := nm_of h1
      obtain ⟨n1, C, n2⟩ := tok.cnm _ _ _ hy
      exact ⟨_, .one ⟨g.gl h2, dbg1 h3, .inl (by rw [g.hmg]; exact n2)⟩, fun r he => exm_of1 tok g r n1 n2 rfl he⟩
    · cases h
  · split at h
    · simp only [Bool.and_eq_true] at h
      obtain ⟨⟨⟨⟨⟨h1, h2⟩, h3⟩, h4⟩, h5⟩, h6⟩ := h
      obtain ⟨fs, hy⟩ := nm_of h1
      obtain ⟨fs2, hy2⟩ := nm_of h2
      obtain ⟨n1, C, n2⟩ := tok.cnm _ _ _ hy
      obtain ⟨k1, C2, k2⟩ := tok.cnm _ _ _ hy2
      exact ⟨_, .two ⟨g.gl h3, dbg1 h4, .inl (by rw [g.hmg]; exact n2)⟩ ⟨g.gl h5, dbg1 h6, .inl (by rw [g.hmg]; exact k2)⟩, fun r he => exm_of2 tok g r n1 n2 k1 k2 he⟩
    · cases h
/-- a try whose one suite raises -/
theorem chkTX_ok (tok : TabOk T G) {X : Cx} {W : WX} (g : GoodS G Γ N sc X) (tk : Takes X W) {body : CSs} {b : List PySem.Stmt} (hbody : ∀ (X : Cx) (W : WX), GoodS G Γ N sc X → Takes X W → PSs X b (LS G W (exs T Γ body))) {h : HC} {hd : ExceptHandler} {pos : Pos} (hh : chkTX T sc h hd = true) :
    PS X (.Try b [hd] [] [] pos) (LS G W (ex T Γ (.tryS body [h]))) := by
  unfold chkTX at hh
  split at hh
  · rename_i c hsu
    split at hh
    · rename_i ty x p1 p2 p3 p4
      simp only [Bool.and_eq_true] at hh
      obtain ⟨⟨⟨⟨⟨h1, h2⟩, h3⟩, h4⟩, h5⟩, h6⟩ := hh
      have h1 := of_decide_eq_true h1
      obtain ⟨cs, ct, hex⟩ := chkTy_ok tok g.good h2
      obtain ⟨fs, hy⟩ := nm_of h3
      obtain ⟨e, he, ee⟩ := List.any_eq_true.mp h4
      have ee := of_decide_eq_true ee
      subst ee
      obtain ⟨C, bmB, B, newId, initId, F, k1, k2, k3, k4, k5⟩ := tok.ex0 e he x fs hy
      refine (ps_tryX (tb := fun W' => LS G ⟨W', wXpass X.K cs W.c⟩ (exs T Γ body)) (ts := fun a cls d D σ H => W.c (.ref C) none σ H) g.stk g.frm g.passA tk.c ct
        (fun W' pn xe tn tc pass pa => hbody (X.tr pn xe) ⟨W', wXpass X.K cs W.c⟩ (g.tr pass pa) ⟨tn, tc⟩) (fun a oe cls d pn hz hf tkS hot => ?_)).w fun D σ H hq => ?_
      · exact pss_one ((L2H.ps_raiseH hot tkS (pmk_own0 F (by show PySem.W.excIn X.K C bmB newId = true; rw [g.good.hK]; exact k1) (by show X.mg x = _; rw [g.good.hmg]; exact k2) (by show PySem.W.keepIn X.K (.ref C) = true; rw [g.good.hK]; exact k3)
          (raises_own (by show PySem.W.subIn X.K (.ref C) (.type "BaseException") = some true; rw [g.good.hK]; exact k4) (by show PySem.W.typeIn X.K (.ref C) = some (.type "type"); rw [g.good.hK]; exact k5)) (g.good.gl h5) (dbg1 h6))).w fun D σ H z => z)
      · obtain ⟨M, ι, sp, m, s, post⟩ := hq
        refine ⟨M, ι, sp, m, s, ?_⟩
        simp only [ex] at post
        cases er : exs T Γ body sp M with
        | exc x0 sp1 M1 =>
          rw [er] at post
          intro ι' H' σ' cv d q1 q2 q3 q4
          have post := PostS.from (r := runH T.exm x0 sp1 M1 [h]) post q2
          simp only [runH] at post
          split at post
          · rename_i hm
            have hx := hex q4 hm
            rw [h1] at post
            dsimp only at post
            rw [hsu] at post
            simp only [runS] at post
            split at post
            · exact post.elim
            · rename_i hhot
              have hhot : x0.hot = false := by simpa using hhot
              rw [hhot]
              exact ⟨true, hx, fun _ a ha => post ι' H' σ' (.ref C) none q1 .refl q3 ⟨x, fs, C, (tok.cnm _ _ _ hy).1, k2, rfl, fun i p z => by simp at z⟩, fun z => nomatch z⟩
          · rename_i hm
            have hx := hex q4 hm
            have post : W.c cv d σ' H' := post ι' H' σ' cv d q1 .refl q3 q4
            cases hh : x0.hot with
            | false => exact ⟨false, hx, fun z => (nomatch z), fun _ => post⟩
            | true => exact ⟨hx, post⟩
          · exact post.elim
        | nx sp1 M1 => rw [er] at post; exact post
        | ret p M1 => rw [er] at post; exact post
        | brk sp1 M1 => rw [er] at post; exact post
        | cnt sp1 M1 => rw [er] at post; exact post
        | bad => rw [er] at post; exact post
    · cases hh
  · cases hh
mutual
theorem chkS_ok (tok : TabOk T G) : ∀ (c : CS) (st : PySem.Stmt), chkS T N sc c st = true → ∀ (X : Cx) (W : WX), GoodS G Γ N sc X → Takes X W → PS X st (LS G W (ex T Γ c))
  | .asg t e, st, h, X, W, g, tk => by
    unfold chkS at h
    split at h
    · rename_i tg v p
      rw [Bool.and_eq_true] at h
      have he := (chkE_ok tok e sc false v h.2 _ X W g.good tk).1
      have h1 := h.1
      cases t with
      | name i =>
        dsimp only at h1
        split at h1
        · rename_i x px
          obtain ⟨k1, k2, k3⟩ := and3 h1
          simp only [ex]
          exact ss_set g.nd (g.good.ix k1) (by rw [g.good.hs]; exact loc_of k2) (hfn g x) he (swNo_ok g.good.hs g.kind k3)
        · cases h1
      | tup ts =>
        dsimp only at h1
        obtain ⟨k1, k2, k3⟩ := and3 h1
        simp only [ex]
        cases tg <;> first
          | exact absurd k1 Bool.false_ne_true
          | exact ss_tup he (chkT_ok _ _ k2 g.good) (by unfold swapsWithSole swapsWith; cases v <;> rfl) (swNone_ok g.good.hs k3) rfl
    · cases h
  | .asgC i own tg it cd elt, st, h, X, W, g, tk => by
    unfold chkS at h
    split at h
    · simp only [Bool.and_eq_true] at h
      obtain ⟨⟨a1, a2⟩, ⟨⟨⟨⟨⟨⟨h0, h1⟩, h2⟩, h3⟩, h4⟩, h5⟩, h6⟩, h7⟩ := h
      unfold swLc at a2
      simp only [Bool.and_eq_true, decide_eq_true_eq, Bool.not_eq_true'] at a2
      obtain ⟨⟨b1, b2⟩, b3⟩ := a2
      simp only [ex, ev]
      have hl := (congrArg (fun z : Scope => z.names.lookup _) g.good.hs).trans b1
      refine PS.w (ss_setLc (G := G) (W := W) (cc := evC T Γ cd) (ce := ev T Γ elt) (t := tg) g.good.calm g.nd (g.good.ix a1) hl (sw_true (by rw [g.good.hs]; exact g.kind) hl b2 b3) (chkI_ok tok it sc _ _ h5 _ X W g.good tk) (g.good.blkOk h1) (fun s H C cl fp => chkT_ok tg _ h2 (g.good.blk tok h0)) (fun s H C cl fp => chkC_ok tok cd _ _ h6 _ _ (g.good.blk tok h0))
        (fun s H C cl fp => (chkE_ok tok elt _ false _ h7 _ _ W0 (g.good.blk tok h0) takes0).1) (folded_of h4) (fun i hi => by
          have q := List.all_eq_true.mp h3 i hi
          obtain ⟨j, hj, ej⟩ := List.any_eq_true.mp q
          exact (of_decide_eq_true ej) ▸ hj)) fun D σ H hq => nameW hq
    · cases h
  | .par ts es, st, h, X, W, g, tk => by
    unfold chkS at h
    split at h
    · split at h
      · simp only [Bool.and_eq_true] at h
        obtain ⟨⟨⟨⟨h1, h2⟩, h3⟩, h4⟩, h5⟩ := h
        have h4' := h4
        unfold parB at h4'
        simp only [Bool.and_eq_true, decide_eq_true_eq] at h4'
        simp only [ex]
        exact ss_par2 g.good.calm g.nd (g.good.ix h1) (g.good.ix h2) (of_decide_eq_true h3) (by rw [g.good.hs]; exact h4'.1.1.1.1.1.1) (by rw [g.good.hs]; exact h4'.1.1.1.1.1.2) (chkEs_ok tok es sc _ h5 _ X W g.good tk) (par2_ok g.good.hs g.kind h4)
      · cases h
    · split at h
      · simp only [Bool.and_eq_true] at h
        obtain ⟨⟨⟨⟨⟨⟨⟨⟨⟨h1, h2⟩, h3⟩, h4⟩, h5⟩, h6⟩, h7⟩, h8⟩, h9⟩, h10⟩ := h
        have h7' := h7
        unfold parB at h7'
        simp only [Bool.and_eq_true, decide_eq_true_eq] at h7'
        have h8' := h8
        unfold parB at h8'
        simp only [Bool.and_eq_true, decide_eq_true_eq] at h8'
        simp only [ex]
        exact ss_par3 g.good.calm g.nd (g.good.ix h1) (g.good.ix h2) (g.good.ix h3) (of_decide_eq_true h4) (of_decide_eq_true h5) (of_decide_eq_true h6) (by rw [g.good.hs]; exact h7'.1.1.1.1.1.1) (by rw [g.good.hs]; exact h7'.1.1.1.1.1.2) (by rw [g.good.hs]; exact h8'.1.1.1.1.1.2) (chkEs_ok tok es sc _ h10 _ X W g.good tk)
          (par3_ok g.good.hs g.kind h7 h8 (by simpa using h9))
      · cases h
    · cases h
  | .asgI o i e, st, h, X, W, g, tk => by
    unfold chkS at h
    split at h
    · simp only [Bool.and_eq_true] at h
      obtain ⟨⟨⟨h1, h2⟩, h3⟩, h4⟩ := h
      simp only [ex]
      exact ss_asgI (chkE_ok tok e sc false _ h2 _ X W g.good tk).1 (chkE_ok tok o sc false _ h3 _ X W g.good tk).1 (chkE_ok tok i sc false _ h4 _ X W g.good tk).1 h1
    · cases h
  | .setF o f e, st, h, X, W, g, tk => by
    unfold chkS at h
    split at h
    · obtain ⟨h1, h2, h3⟩ := and3 h
      have h1 := of_decide_eq_true h1
      subst h1
      simp only [ex]
      exact ss_setF g.good.hK tok (chkE_ok tok e sc false _ h2 _ X W g.good tk).1 (chkE_ok tok o sc false _ h3 _ X W g.good tk).1 (by unfold swapsWith; rename_i v _; cases v <;> rfl)
    · cases h
  | .putD o i e, st, h, X, W, g, tk => by
    unfold chkS at h
    split at h
    · simp only [Bool.and_eq_true] at h
      obtain ⟨⟨⟨h1, h2⟩, h3⟩, h4⟩ := h
      simp only [ex]
      exact ss_putD (by have := g.good.un; omega) (chkE_ok tok e sc false _ h2 _ X W g.good tk).1 (chkE_ok tok o sc false _ h3 _ X W g.good tk).1 (chkE_ok tok i sc false _ h4 _ X W g.good tk).1
    · cases h
  | .asgU ts e, st, h, X, W, g, tk => by
    unfold chkS at h
    split at h
    · simp only [Bool.and_eq_true] at h
      obtain ⟨⟨⟨⟨h1, h2⟩, h3⟩, h4⟩, h5⟩ := h
      exact ss_asgU g.good.hK g.good.calm (of_decide_eq_true h2) h1 (chkE_ok tok e sc false _ h4 _ X W g.good tk).1 (chkUs_ok tok g tk _ _ h5) (by unfold swapsWithSole swapsWith; rename_i v _; cases v <;> rfl) (swNone_ok g.good.hs h3)
    · cases h
  | .aug i op e, st, h, X, W, g, tk => by
    unfold chkS at h
    split at h
    · simp only [Bool.and_eq_true] at h
      obtain ⟨⟨⟨h1, h2⟩, h3⟩, h4⟩ := h
      have h3 := of_decide_eq_true h3
      subst h3
      simp only [ex]
      exact ss_aug g.nd (g.good.ix h1) (by rw [g.good.hs]; exact loc_of h2) (hfn g _) (chkE_ok tok e sc false _ h4 _ X W g.good tk).1
    · cases h
  | .augI o i op e, st, h, X, W, g, tk => by
    unfold chkS at h
    split at h
    · simp only [Bool.and_eq_true] at h
      obtain ⟨⟨⟨⟨h1, h2⟩, h3⟩, h4⟩, h5⟩ := h
      have h2 := of_decide_eq_true h2
      subst h2
      simp only [ex]
      exact ss_augI g.good.hK (chkE_ok tok o sc false _ h3 _ X W g.good tk).1 (chkE_ok tok i sc false _ h4 _ X W g.good tk).1 h1 (chkE_ok tok e sc false _ h5 _ X W g.good tk).1
    · cases h
  | .expr e, st, h, X, W, g, tk => by
    unfold chkS at h
    split at h
    · rw [Bool.and_eq_true] at h
      simp only [ex]
      exact ss_expr (chkE_ok tok e sc false _ h.2 _ X W g.good tk).1 (swaps_of h.1)
    · cases h
  | .ret e, st, h, X, W, g, tk => by
    unfold chkS at h
    split at h
    · simp only [ex]
      exact ss_ret (chkE_ok tok e sc false _ h _ X W g.good tk).1
    · cases h
  | .retN, st, h, X, W, g, tk => by
    unfold chkS at h
    split at h
    · simp only [ex]
      exact ss_retN
    · cases h
  | .ite c a b, st, h, X, W, g, tk => by
    unfold chkS at h
    split at h
    · obtain ⟨h1, h2, h3⟩ := and3 h
      simp only [ex]
      exact ss_if ((chkE_ok tok c sc true _ h1 _ X W g.good tk).2 rfl) (chkSs_ok tok a _ h2 X W g tk) (chkSs_ok tok b _ h3 X W g tk)
    · cases h
  | .forS t it body, st, h, X, W, g, tk => by
    unfold chkS at h
    split at h
    · simp only [Bool.and_eq_true] at h
      obtain ⟨⟨⟨h1, h2⟩, h3⟩, h4⟩ := h
      simp only [ex]
      exact ss_for g.pass g.good.calm (chkI_ok tok it sc _ _ h3 _ X W g.good tk) (chkT_ok t _ h1 g.good) (chkSs_ok tok body _ h4 X W g tk) (folded_of h2)
    · cases h
  | .whileS c body, st, h, X, W, g, tk => by
    unfold chkS at h
    split at h
    · rw [Bool.and_eq_true] at h
      simp only [ex]
      exact ss_while g.pass ((chkE_ok tok c sc true _ h.1 _ X W g.good tk).2 rfl) (chkSs_ok tok body _ h.2 X W g tk)
    · cases h
  | .raise c .nil, st, h, X, W, g, tk => by
    unfold chkS at h
    dsimp only at h
    split at h
    · simp only [Bool.and_eq_true] at h
      obtain ⟨⟨⟨h1, h2⟩, h3⟩, h4⟩ := h
      split at h1
      · rename_i y fs hy
        have h1 := of_decide_eq_true h1
        subst h1
        obtain ⟨d, hd, ed⟩ := List.any_eq_true.mp h2
        have ed := of_decide_eq_true ed
        subst ed
        refine (ss_raise0 tok g.good.hK g.good.hmg g.good.calm tk hy hd (g.good.gl h3) h4).w fun D σ H hq => ?_
        simp only [ex, evs] at hq
        exact hq
      · cases h1
    · cases h
  | .raise c (.cons c0 cr), st, h, X, W, g, tk => by
    unfold chkS at h
    dsimp only at h
    split at h
    · simp only [Bool.and_eq_true] at h
      obtain ⟨⟨⟨⟨⟨⟨h1, h2⟩, h3⟩, h4⟩, h5⟩, h6⟩, h7⟩ := h
      split at h1
      · rename_i y fs hy
        have h1 := of_decide_eq_true h1
        subst h1
        obtain ⟨d, hd, ed⟩ := List.any_eq_true.mp h2
        have ed := of_decide_eq_true ed
        subst ed
        obtain ⟨k, hr, _, _⟩ := g.good.fns
        refine (ss_raise2 tok g.good.hK g.good.hmg g.good.hP (hr.room.mono (by omega)) g.good.calm tk hy hd (g.good.gl h3) h4 (chkEs_ok tok _ sc _ h7 _ X W g.good tk) h5 (cesLen_ok _ 2 (of_decide_eq_true h6))).w fun D σ H hq => ?_
        simp only [ex] at hq
        exact hq
      · cases h1
    · cases h
  | .raise c (.star c0 cr), st, h, X, W, g, tk => by
    unfold chkS at h
    dsimp only at h
    split at h
    · simp only [Bool.and_eq_true] at h
      obtain ⟨⟨⟨⟨⟨⟨h1, h2⟩, h3⟩, h4⟩, h5⟩, h6⟩, h7⟩ := h
      simp [cesLen] at h6
    · cases h
  | .tryS body hs, st, h, X, W, g, tk => by
    unfold chkS at h
    split at h
    · rw [Bool.and_eq_true, Bool.or_eq_true] at h
      have hbody := fun (X : Cx) (W : WX) (g : GoodS G Γ N sc X) (tk : Takes X W) => chkSs_ok tok body _ h.1 X W g tk
      rcases h.2 with h2 | h2
      · obtain ⟨l, hl, hw⟩ := chkHs_ok tok g.good hs _ h2
        refine (ps_try_anyA (tb := fun W' => LS G (.two W') (exs T Γ body)) g.stk g.frm tk.c g.nd (fun W' pn xe tk' pass pa => hbody (X.tr pn xe) (.two W') (g.tr pass pa) (.two tk')) hl).w fun D σ H hq => ?_
        obtain ⟨M, ι, sp, m, s, post⟩ := hq
        refine ⟨M, ι, sp, m, s, ?_⟩
        simp only [ex] at post
        cases er : exs T Γ body sp M with
        | exc x sp1 M1 =>
          rw [er] at post
          intro ι' H' σ' cv d a b c f
          rw [WX.two_at]
          exact hw W.c D x M1 ι' H' sp1 σ' cv d a c f (PostS.hot (PostS.from (r := runH T.exm x sp1 M1 hs) post b))
        | nx sp1 M1 => rw [er] at post; exact post
        | ret p M1 => rw [er] at post; exact post
        | brk sp1 M1 => rw [er] at post; exact post
        | cnt sp1 M1 => rw [er] at post; exact post
        | bad => rw [er] at post; exact post
      · split at h2
        · rename_i hd hds pos hs h1
          rw [Bool.and_eq_true] at h2
          have e0 : hds = [] := by simpa using h2.1
          subst e0
          exact chkTX_ok tok g tk hbody h2.2
        · cases h2
    · cases h
  | .pass, st, h, X, W, g, tk => by
    unfold chkS at h
    split at h
    · simp only [ex]
      exact ss_pass
    · cases h
  | .brk, st, h, X, W, g, tk => by
    unfold chkS at h
    split at h
    · simp only [ex]
      exact ss_brk
    · cases h
  | .cnt, st, h, X, W, g, tk => by
    unfold chkS at h
    split at h
    · simp only [ex]
      exact ss_cnt
    · cases h
theorem chkSs_ok (tok : TabOk T G) : ∀ (c : CSs) (st : List PySem.Stmt), chkSs T N sc c st = true → ∀ (X : Cx) (W : WX), GoodS G Γ N sc X → Takes X W → PSs X st (LS G W (exs T Γ c))
  | .nil, st, h, X, W, g, tk => by
    unfold chkSs at h
    have e : st = [] := by simpa using h
    subst e
    simp only [exs]
    exact ss_nil
  | .cons c r, st, h, X, W, g, tk => by
    unfold chkSs at h
    split at h
    · rw [Bool.and_eq_true] at h
      simp only [exs]
      exact ss_cons (chkS_ok tok c _ h.1 X W g tk) (chkSs_ok tok r _ h.2 X W g tk)
    · cases h
end
end
end DI
set_option maxHeartbeats 8000000
/-! # DI: defs -/
namespace DI
open PySem PySem.Spec L2

/-! ### what nobody names is let go -/
section
variable {G : Gd} {ι : List Addr} {H : Hp} {O O' : Addr → Prop} {n : Nat}
mutual
theorem Rp.gc (ho : ∀ a, O' a → O a) : ∀ (p : PV) (v : V), Rp G ι H O p v → okRef n p = true → Rp G (ι.take n) H O' p v
  | .non, _, h, _ => by cases h; exact .non
  | .bl b, _, h, _ => by cases h; exact .bl b
  | .int i, _, h, _ => by cases h; exact .int i
  | .str s, _, h, _ => by cases h; exact .str s
  | .tup ps, _, h, k => by
    cases h with
    | tup h1 h2 h3 => exact .tup (h1.elim (fun z => .inl ⟨z.1, fun q => z.2 (ho _ q)⟩) .inr) h2 (Rps.gc ho ps _ h3 (by simpa only [okRef] using k))
  | .lst ps, _, h, k => by
    cases h with
    | lst h1 h2 h3 => exact .lst ⟨h1.1, fun q => h1.2 (ho _ q)⟩ h2 (Rps.gc ho ps _ h3 (by simpa only [okRef] using k))
  | .ref m, _, h, k => by
    cases h with
    | ref h1 =>
      have hm : m < n := by simpa [okRef] using k
      exact .ref (by rw [List.getElem?_take_of_lt hm]; exact h1)
  | .fn f, _, h, _ => by
    cases h with
    | fn h1 h2 => exact .fn h1 h2
  | .ty m, _, h, _ => by cases h; exact .ty m
  | .scr ns, _, h, _ => by
    cases h with
    | scr h0 h1 => exact .scr h0 (h1.elim .inl fun z => .inr ⟨z.1, z.2.1, fun q => z.2.2 (ho _ q)⟩)
theorem Rps.gc (ho : ∀ a, O' a → O a) : ∀ (ps : List PV) (vs : List V), Rps G ι H O ps vs → okRefs n ps = true → Rps G (ι.take n) H O' ps vs
  | [], _, h, _ => by cases h; exact .nil
  | p :: ps, _, h, k => by
    cases h with
    | cons h1 h2 =>
      simp only [okRefs, Bool.and_eq_true] at k
      exact .cons (Rp.gc ho p _ h1 k.1) (Rps.gc ho ps _ h2 k.2)
end
theorem own_take {M : Store} {a : Addr} (h : Own (M.take n) (ι.take n) a) : Own M ι a := by
  obtain ⟨k, o, h1, h2⟩ := h
  have hk : k < n := by
    have := (List.getElem?_eq_some_iff.mp h1).1
    simp at this
    omega
  rw [List.getElem?_take_of_lt hk] at h1 h2
  exact ⟨k, o, h1, h2⟩
theorem MRel.gc {M : Store} (m : MRel G M ι H) (hok : (M.take n).all (okObj n) = true) : MRel G (M.take n) (ι.take n) H := by
  have key : ∀ {k : Nat} {o : SObj}, (M.take n)[k]? = some (some o) → k < n ∧ M[k]? = some (some o) := fun {k o} h => by
    have hk : k < n := by
      have := (List.getElem?_eq_some_iff.mp h).1
      simp at this
      omega
    rw [List.getElem?_take_of_lt hk] at h
    exact ⟨hk, h⟩
  refine ⟨m.sa, by simp [m.len], fun i j o o' a h1 h2 h3 h4 => ?_, fun i o h => ?_, m.tb⟩
  · obtain ⟨k1, h1⟩ := key h1
    obtain ⟨k2, h2⟩ := key h2
    rw [List.getElem?_take_of_lt k1] at h3
    rw [List.getElem?_take_of_lt k2] at h4
    exact m.inj i j o o' a h1 h2 h3 h4
  · have hm : some o ∈ M.take n := List.mem_of_getElem? h
    have ok := List.all_eq_true.mp hok _ hm
    obtain ⟨k1, h⟩ := key h
    obtain ⟨a, h1, h2⟩ := m.obj i o h
    refine ⟨a, by rw [List.getElem?_take_of_lt k1]; exact h1, ?_⟩
    cases o with
    | lst ps =>
      obtain ⟨vs, q1, q2, q3⟩ := h2
      exact ⟨vs, q1, q2, Rps.gc (fun _ z => own_take z) ps _ q3 (by simpa only [okObj] using ok)⟩
    | dct kvs =>
      obtain ⟨vs, q1, q2, q3⟩ := h2
      exact ⟨vs, q1, q2, Rps.gc (fun _ z => own_take z) _ _ q3 (by simpa only [okObj] using ok)⟩
    | ins c fs =>
      obtain ⟨nm, fn, C, dx, fvs, q1, q2, q3, q4, q5, q6, q7⟩ := h2
      refine ⟨nm, fn, C, dx, fvs, q1, q2, q3, q4, q5, q6, fun i f p z1 z2 => ?_⟩
      obtain ⟨v, z3, z4⟩ := q7 i f p z1 z2
      have := List.all_eq_true.mp (by simpa only [okObj] using ok) _ (List.mem_of_getElem? z2)
      exact ⟨v, z3, Rp.gc (fun _ z => own_take z) p _ z4 this⟩
theorem Ext.gc {M M' : Store} {ι' : List Addr} {H' : Hp} (hl : ι.length = n) (e : Ext M ι H M' ι' H') : Ext M ι H (M'.take n) (ι'.take n) H' :=
  ⟨fun k a h => by
    have hk : k < n := by rw [← hl]; exact (List.getElem?_eq_some_iff.mp h).1
    rw [List.getElem?_take_of_lt hk]
    exact e.pre k a h, fun a o h t z => ⟨(e.keep a o h t z).1, fun q => (e.keep a o h t z).2 (own_take q)⟩⟩
end
theorem gc_ok {G : Gd} {M M' : Store} {ι ι' : List Addr} {H H' : Hp} {ps : List PV} {vs : List V} (m : MRel G M ι H) (m' : MRel G M' ι' H') (e : Ext M ι H M' ι' H') (r : Rps G ι' H' (Own M' ι') ps vs) :
    ∃ ι'', MRel G (gcM M.length M' ps) ι'' H' ∧ Ext M ι H (gcM M.length M' ps) ι'' H' ∧ Rps G ι'' H' (Own (gcM M.length M' ps) ι'') ps vs := by
  unfold gcM
  split
  · exact ⟨ι', m', e, r⟩
  · split
    · rename_i h
      rw [Bool.and_eq_true] at h
      exact ⟨ι'.take M.length, m'.gc h.2, e.gc m.len, Rps.gc (fun _ z => own_take z) ps vs r h.1⟩
    · exact ⟨ι', m', e, r⟩
theorem Rps.ofFs {G : Gd} {ι : List Addr} {H : Hp} {O : Addr → Prop} : ∀ {ps : List PV}, (∀ (i : Nat) (p : PV), ps[i]? = some p → ∃ v, Rp G ι H O p v) → ∃ vs, Rps G ι H O ps vs
  | [], _ => ⟨[], .nil⟩
  | p :: ps, h => by
    obtain ⟨v, hv⟩ := h 0 p rfl
    obtain ⟨vs, hvs⟩ := @Rps.ofFs G ι H O ps fun i q hq => h (i + 1) q (by simpa using hq)
    exact ⟨v :: vs, .cons hv hvs⟩
theorem gc_exc {G : Gd} {M M' : Store} {ι ι' : List Addr} {H H' : Hp} {x : Exc} {cv : Value} {d : Option Addr} (m : MRel G M ι H) (m' : MRel G M' ι' H') (e : Ext M ι H M' ι' H') (r : XRep G ι' H' (Own M' ι') x cv d) :
    ∃ ι'', MRel G (gcM M.length M' x.fs) ι'' H' ∧ Ext M ι H (gcM M.length M' x.fs) ι'' H' ∧ XRep G ι'' H' (Own (gcM M.length M' x.fs) ι'') x cv d := by
  obtain ⟨nm, fn, C, r1, r2, r3, r4⟩ := r
  unfold gcM
  split
  · exact ⟨ι', m', e, nm, fn, C, r1, r2, r3, r4⟩
  · split
    · rename_i h
      rw [Bool.and_eq_true] at h
      refine ⟨ι'.take M.length, m'.gc h.2, e.gc m.len, nm, fn, C, r1, r2, r3, fun i p hp => ?_⟩
      obtain ⟨f, dd, fvs, v, q1, q2, q3, q4, q5⟩ := r4 i p hp
      have hok : ∀ {ps : List PV} {n i : Nat} {p : PV}, okRefs n ps = true → ps[i]? = some p → okRef n p = true := fun {ps n i p} => by
        induction ps generalizing i with
        | nil => intro _ z; simp at z
        | cons a ps ih =>
          intro hh z
          simp only [okRefs, Bool.and_eq_true] at hh
          cases i with
          | zero => simp at z; subst z; exact hh.1
          | succ i => exact ih hh.2 (by simpa using z)
      exact ⟨f, dd, fvs, v, q1, q2, q3, q4, Rp.gc (fun _ z => own_take z) p v q5 (hok h.1 hp)⟩
    · exact ⟨ι', m', e, nm, fn, C, r1, r2, r3, r4⟩

/-! ### a def of the text -/
/-- where lambdas are made: the def's code object, the lambdas' name -/
def LamD (K : PySem.W.Frag) (x : Str) (f c : Addr) (q : Str) : Prop := (∃ (oc : Value) (od : Option Addr) (fd : FuncData) (osl : Array (Option Value)), K.lookup f = some ⟨oc, od, .func fd, osl⟩ ∧ fd.code = .ref c) ∧ q = x ++ ".<locals>." ++ "<lambda>"
def scB (N P : List Str) (sc : Scope) : Bool :=
  decide (sc.kind = .function) && !sc.isCoroutine && !sc.isGenerator && decide N.Nodup && decide (N.take P.length = P) && P.all (fun x => decide (sc.names.lookup x = some .local) || decide (sc.names.lookup x = some .cell)) && sc.names.all (fun y => !decide (y.2 = .free))
theorem scB_ok {N P : List Str} {sc : Scope} (h : scB N P sc = true) : FnScope N P sc := by
  unfold scB at h
  simp only [Bool.and_eq_true, Bool.not_eq_true', decide_eq_true_eq, List.all_eq_true, Bool.or_eq_true, decide_eq_false_iff_not] at h
  obtain ⟨⟨⟨⟨⟨⟨h1, h2⟩, h3⟩, h4⟩, h5⟩, h6⟩, h7⟩ := h
  exact ⟨h1, h2, h3, h4, h5, h6, h7⟩
theorem srep_start {G : Gd} {M : Store} {ι : List Addr} {H : Hp} {ps : List PV} {vs : List V} {N : List Str} (r : Rps G ι H (Own M ι) ps vs) : SRep G M ι H (ps.map some ++ List.replicate (N.length - ps.length) none) (L2.start N vs) := by
  have hl := r.length
  unfold L2.start
  refine ⟨by simp [hl], fun i p h => ?_⟩
  by_cases hi : i < ps.length
  · rw [List.getElem?_append_left (by simpa using hi), List.getElem?_map] at h
    cases e : ps[i]? with
    | none => rw [e] at h; cases h
    | some q =>
      rw [e] at h
      have h : q = p := by simpa using h
      subst h
      obtain ⟨v, h1, h2⟩ := r.get e
      exact ⟨v, by rw [List.getElem?_append_left (by simp; omega), List.getElem?_map, h1]; rfl, h2⟩
  · rw [List.getElem?_append_right (by simpa using hi)] at h
    rw [List.getElem?_replicate] at h
    split at h <;> cases h
section
variable {T : Tab} {G : Gd} {Γ : Fns} {P : Program} {w : World} {base : Heap}
theorem fnD_of (tok : TabOk T G) {k : Nat} {f : Addr} {m0 x : Str} {st : PySem.Stmt} {ps : List Str} (c : FnC) (F : FDef G.K m0 x st f) (S : FnScope c.names ps (dScope st)) (har : ps.length = c.ar) (hb : DBindsQ m0 x st ps)
    (hc : chkSs T c.names (dScope st) c.body (dBody st) = true) (hP : P = G.P)
    (hL : ∀ c P q ns, G.lam = some (c, P, q, ns) → ns = (dScope st).names → LamX.TabB base G.mg c P ∧ LamD G.K x f c q)
    (hF : ∀ (f : Nat) (a : Addr), FAt G f a → FnD P w G.K G.mg base k a (spD G (Γ f))) :
    FnD P w G.K G.mg base (k + 1) f (spD G (runF T Γ c)) := by
  obtain ⟨oc, od, kV, doc, pm, an, cdv, ct, osl, lk, hcd⟩ := F.ex
  refine ⟨F.kp, fun A outer s H us vs Q E hr e0 r hsp => ?_⟩
  obtain ⟨M, ι, pvs, m, rps, post⟩ := hsp
  unfold runF at post
  by_cases hlen : pvs.length = c.ar
  case neg => rw [if_neg hlen] at post; exact post.elim
  rw [if_pos hlen] at post
  have l1 := rps.length
  have l2 := r.length
  have hl : vs.length = ps.length := by omega
  have KX : G.K.In s.heap := e0.mod.kin.keeps fun b o e => (e0.bs b o e).1
  have lim : s.heap.NoLimit := e0.mod.nolimit.keeps fun b o e => (e0.bs b o e).1
  have hkind : ∀ y ∈ ps.zip us, (dScope st).names.lookup y.1 = some .local ∨ ((dScope st).names.lookup y.1 = some .cell ∧ ((cellsFrom (s.heap.objs.size + 1) (dScope st).names []).lookup y.1).isSome = true) := fun ⟨n, v⟩ hy => by
    rcases S.par n (List.of_mem_zip hy).1 with q | q
    · exact .inl q
    · exact .inr ⟨q, PySem.W.cellsFrom_some _ _ _ (.inl q)⟩
  have hbt : BindsTo s (PySem.W.fnOf m0 x (dArgs st) (dBody st) (dScope st) .none kV doc pm an cdv ct) ⟨us, []⟩ (ps.zip us) := .of_eq (hb kV doc pm an cdv ct us (by omega))
  refine codeAny_call_function hr.room.depth (KX _ _ lk) rfl S.co S.gen rfl (PySem.W.codeRec_of KX hcd) (hbt _ _ _ _ ?_)
  refine wpAny_newFunctionEnv_cells S.kind hkind fun env he s1 xx => ?_
  subst he
  refine ⟨lim.keeps xx.toInCall.keep, codeAny_func ?_⟩
  have hroom := hr.deeper (PyProof.Rows.envOfC x (dScope st) s.heap.objs.size f cdv)
  have I : Inv (cxOf (CX2 P w E.n) P w G.K G.mg base c.names x (dScope st) f cdv A outer s H E.c) [] (L2.start c.names vs) H s1 := inv_start S hr.room.hd e0 hl r xx
  have tk : Takes (cxOf (CX2 P w E.n) P w G.K G.mg base c.names x (dScope st) f cdv A outer s H E.c) ⟨fun cls d _ H => E.n cls d H, fun cls d _ H => E.c cls d H⟩ :=
    ⟨fun u s' z => wpAny_mono (L2N.XE.leave (E₁ := fun e' s'' => CX2 P w E.n outer H s E.c e' s'') (W := fun cls d _ H => E.n cls d H) (E := E.n) rfl rfl rfl (fun _ _ _ _ h => h) z) (fun _ _ q => .inl q) fun _ _ q => q,
     fun u s' z => wpAny_mono (L2.XE.leave (E₁ := fun e' s'' => CX2 P w E.n outer H s E.c e' s'') (W := fun cls d _ H => E.c cls d H) (E := E.c) rfl rfl rfl (fun _ _ _ _ h => h) z) (fun _ _ q => .inr q) fun _ _ q => q⟩
  have gs : GoodS G Γ c.names (dScope st) (cxOf (CX2 P w E.n) P w G.K G.mg base c.names x (dScope st) f cdv A outer s H E.c) :=
    ⟨⟨rfl, rfl, hP, rfl, S.nd, rfl, rfl, hroom.g, by have := hroom.room.un; show (A.deeper _).units + 66 < cLine; omega, fun _ _ => rfl, k, hroom, hF, fun c P q ns e z => by
      obtain ⟨z1, ⟨oc', od', fd, osl', z2, z3⟩, z4⟩ := hL c P q ns e z
      rw [lk] at z2
      cases z2
      exact ⟨(hr.room.mono (by omega : 4 * k + 6 + 1 ≤ 4 * (k + 1) + 3)).deeper _, z3, z4.symm, z1⟩⟩, passes_of rfl, rfl, rfl, S.kind, fun hd => L2H.passesAt_of rfl hd⟩
  have body := chkSs_ok tok c.body (dBody st) hc _ _ gs tk
  have fin : ∀ {s' : Shared} {σ' : St} {H' : Hp} {v : V} {u : Value}, Inv (cxOf (CX2 P w E.n) P w G.K G.mg base c.names x (dScope st) f cdv A outer s H E.c) [] σ' H' s' → RelV v u → Q v H' → L2.CE outer P w H s Q u s' :=
    fun {s' σ' H' v u} J rv q => ⟨v, H', J.os, J.bare, J.base, J.hok, rv, q⟩
  have sr := srep_start (N := c.names) rps
  rw [hlen] at sr
  refine wpAny_mono (body.run [] s1 (L2.start c.names vs) H { nx := fun _ H' => Q .non H', rt := Q } I ⟨M, ι, _, m, sr, ?_⟩) (fun fl s' hs => ?_) fun e s' hs => hs
  · cases er : exs T Γ c.body (pvs.map some ++ List.replicate (c.names.length - c.ar) none) M with
    | nx sp' M' =>
      rw [er] at post
      intro ι' H' σ' m' e' _
      obtain ⟨ι'', g1, g2, _⟩ := gc_ok (ps := []) (vs := []) m m' e' .nil
      exact post ι'' H' .non g1 g2 .non
    | ret p M' =>
      rw [er] at post
      intro ι' H' v m' e' rp
      obtain ⟨ι'', g1, g2, g3⟩ := gc_ok (ps := [p]) (vs := [v]) m m' e' (.cons rp .nil)
      cases g3 with
      | cons g3 _ => exact post ι'' H' v g1 g2 g3
    | exc x0 sp' M' =>
      rw [er] at post
      intro ι' H' σ' cv d m' e' _ rx
      obtain ⟨ι'', g1, g2, g3⟩ := gc_exc m m' e' rx
      have z := post ι'' H' cv d g1 g2 g3
      cases hh : x0.hot with
      | false => rw [hh] at z; exact z
      | true => rw [hh] at z; exact z
    | brk sp' M' => rw [er] at post; exact post.elim
    | cnt sp' M' => rw [er] at post; exact post.elim
    | bad => rw [er] at post; exact post.elim
  · cases fl with
    | ret u =>
      obtain ⟨v, σ', H', J, rv, q⟩ := hs
      exact fin J rv q
    | next =>
      obtain ⟨σ', H', J, q⟩ := hs
      exact fin (v := V.non) (u := Value.none) J rfl q
    | brk =>
      obtain ⟨_, _, _, q⟩ := hs
      exact False.elim q
    | cont =>
      obtain ⟨_, _, _, q⟩ := hs
      exact False.elim q
/-- the defs of the table -/
structure DefsOk (T : Tab) (G : Gd) (codes : Nat → Option FnC) : Prop where
  df : ∀ (f : Nat) (a : Addr), FAt G f a → PySem.W.keepIn G.K (.ref a) = true ∧
    ∀ c, codes f = some c → ∃ (m0 x : Str) (st : PySem.Stmt) (ps : List Str), FDef G.K m0 x st a ∧ FnScope c.names ps (dScope st) ∧ ps.length = c.ar ∧ DBindsQ m0 x st ps ∧ chkSs T c.names (dScope st) c.body (dBody st) = true ∧ ∀ c P q ns, G.lam = some (c, P, q, ns) → ns = (dScope st).names → LamD G.K x a c q
theorem fnD_all (tok : TabOk T G) {codes : Nat → Option FnC} (dok : DefsOk T G codes) (hP : P = G.P) (hTB : ∀ c P q ns, G.lam = some (c, P, q, ns) → LamX.TabB base G.mg c P) : ∀ (k : Nat) (f : Nat) (a : Addr), FAt G f a → FnD P w G.K G.mg base k a (spD G (Fn T codes k f))
  | 0, f, a, h1 => ⟨(dok.df f a h1).1, fun A outer s H us vs Q E hr e0 r hsp => by
    obtain ⟨M, ι, pvs, m, rps, post⟩ := hsp
    exact post.elim⟩
  | k + 1, f, a, h1 => by
    obtain ⟨kp, hd⟩ := dok.df f a h1
    cases e : codes f with
    | none =>
      refine ⟨kp, fun A outer s H us vs Q E hr e0 r hsp => ?_⟩
      obtain ⟨M, ι, pvs, m, rps, post⟩ := hsp
      simp only [Fn, e] at post
      exact post.elim
    | some c =>
      obtain ⟨m0, x, st, ps, F, S, har, hb, hc, hl⟩ := hd c e
      have hh := fnD_of (P := P) (w := w) (base := base) tok c F S har hb hc hP (fun c P q ns e z => ⟨hTB c P q ns e, hl c P q ns e z⟩) (fun f a h1 => fnD_all tok dok hP hTB k f a h1)
      have e2 : Fn T codes (k + 1) f = runF T (Fn T codes k) c := by
        funext ps M
        simp only [Fn, e]
      rw [e2]
      exact hh
end
end DI
set_option maxHeartbeats 8000000
/-! # DI: the end -/
namespace DI
open PySem PySem.Spec L2

def mkG (P : Program) (T : Tab) (K : PySem.W.Frag) (mg : Str → Option Value) (sa : Addr) (sw : Bool) (lam : Option (Addr × Addr × Str × List (Str × NameKind))) : Gd := ⟨K, mg, fun f => T.fnm[f]?, fun c => T.cnm[c]?, sa, sw, P, lam, fun f => if f < T.fnm.length then none else T.mts[f - T.fnm.length]?⟩
/-- the table that may grow -/
def tabL (lam : Option (Addr × Addr × Str × List (Str × NameKind))) : List Addr := match lam with
  | none => []
  | some (_, P, _, _) => [P]
theorem tabL_mem {lam : Option (Addr × Addr × Str × List (Str × NameKind))} {b : Addr} (h : b ∈ tabL lam) : ∃ c q ns, lam = some (c, b, q, ns) := by
  cases lam with
  | none => simp [tabL] at h
  | some z =>
    obtain ⟨c, P, q, ns⟩ := z
    simp only [tabL, List.mem_singleton] at h
    subst h
    exact ⟨c, q, ns, rfl⟩
/-- the law's call at the heap behind the top -/
theorem law_callD {P : Program} {w : World} {T : Tab} {K : PySem.W.Frag} {mg mb : Str → Option Value} {k : Nat} {fa a : Addr} {g : List PV → Store → Res PV} {s₁ : Shared} {vs : List Value} {ns : List Int} {lam : Option (Addr × Addr × Str × List (Str × NameKind))}
    (KX : K.In s₁.heap) (hns : s₁.heap.Ns mainGlobals mg) (hb : s₁.heap.Ns builtinsNs mb) (hbb : ∀ x : Str, x ≠ "__name__" → mb x = bootBuiltins x) (hlim : s₁.heap.NoLimit) (hg : s₁.gens = #[])
    (hT : ∀ c P q ns, lam = some (c, P, q, ns) → s₁.heap.get? P = some { cls := .none, data := .fields #[] } ∧ K.lookup P = none ∧ PySem.W.codeHdIn K c P = true)
    (hbm : ∃ (bm : Addr) (ob : Obj), mg "__builtins__" = some (.ref bm) ∧ bm ≠ builtinsNs ∧ s₁.heap.get? bm = some ob ∧ ob.cls = .type "module" ∧ ob.dict = some builtinsNs ∧ ob.data = .plain)
    (ha : s₁.heap.get? a = some { cls := .type "list", data := .seq vs.toArray }) (hi : PyProof.Rows.IntsAre vs ns) (hl : ns.length ≤ sizeLine) (hr : RoomG k callerA)
    (F : ∀ (sw : Bool) (base : Heap), (∀ c P q ns, lam = some (c, P, q, ns) → LamX.TabB base mg c P) → FnD P w K mg base k fa (spD (mkG P T K mg a sw lam) g)) {M0 : Store} (hlaw : g [.scr ns] [] = .ok (.bl true) M0) :
    codeAny (model P w) callerA (.call (.ref fa) ⟨[.ref a], []⟩) (fun r s' => r = .ok (.ret (.bool true)) ∧ OldK s₁.heap s'.heap ∧ s'.os = s₁.os ∧ PyProof.Rows.AllBare s'.gens) s₁ := by
  have rv := vals_ints hi
  have lenV := hi.length
  have isT : ∀ {b : Addr}, b ∈ tabL lam → s₁.heap.get? b = some { cls := .none, data := .fields #[] } := fun {b} h => by
    obtain ⟨c, q, ns', e⟩ := tabL_mem h
    exact (hT c b q ns' e).1
  have aT : a ∉ tabL lam := fun z => by
    have q := isT z
    rw [ha] at q
    have z' : Data.seq vs.toArray _ = Data.fields #[] := congrArg Obj.data (Option.some.inj q)
    cases z'
  have core : ∀ (sw : Bool) (H : Hp), (∀ b ∈ tabL lam, H b = some (.tbl #[])) → (∀ b, H b = none ∨ b ∈ tabL lam ∨ ∃ o xs, H b = some (.frz o (.lst xs))) → FxS sw K (fun _ => False) H a (ns.map V.int) → (sw = false → ∃ o, H a = some o ∧ ∀ ps, o ≠ .tbl ps) → HOk P w H s₁.heap → (∀ b, H b ≠ none → b = a ∨ b ∈ tabL lam) → (H a ≠ none → K.lookup a = none) →
      codeAny (model P w) callerA (.call (.ref fa) ⟨[.ref a], []⟩) (fun r s' => r = .ok (.ret (.bool true)) ∧ OldK s₁.heap s'.heap ∧ s'.os = s₁.os ∧ PyProof.Rows.AllBare s'.gens) s₁ := by
    intro sw H hH hO hS hsa hok hA hK
    have noD : ∀ {b : Addr} {o : Obj}, s₁.heap.get? b = some o → (∀ vs n, o.data ≠ .seq vs n) → o.data ≠ .fields #[] → H b = none := fun {b o} e h1 h2 => by
      cases q : H b with
      | none => rfl
      | some u =>
        rcases hA b (by rw [q]; exact nofun) with e' | e'
        · subst e'
          rw [ha] at e
          cases e
          exact (h1 _ _ rfl).elim
        · rw [isT e'] at e
          cases e
          exact (h2 rfl).elim
    have noA : ∀ {b : Addr} {o : Obj} {es : Array DictEntry} {ep : Nat}, s₁.heap.get? b = some o → o.data = .dict es ep → H b = none := fun {b o es ep} e d => noD e (fun vs n z => by rw [d] at z; cases z) fun z => by rw [d] at z; cases z
    have nsK : ∀ {b : Addr} {m : Str → Option Value}, s₁.heap.Ns b m → (hidT s₁.heap H).Ns b m := fun {b m} ⟨o, es, ep, e, d, r⟩ => ⟨o, es, ep, hidT_get e (noA e d), d, r⟩
    have hKb : K.In (hidT s₁.heap H) := fun b o e => hidT_get (KX b o e) (by
      cases q : H b with
      | none => rfl
      | some u =>
        rcases hA b (by rw [q]; exact nofun) with e' | e'
        · subst e'
          rw [hK (by rw [q]; exact nofun)] at e
          cases e
        · obtain ⟨c, q', ns', e2⟩ := tabL_mem e'
          rw [(hT c b q' ns' e2).2.1] at e
          cases e)
    have hM : Mod K mg (hidT s₁.heap H) := ⟨hKb, nsK hns, ⟨mb, nsK hb, hbb⟩, let ⟨mc, h1, h2⟩ := hlim; ⟨mc, nsK h1, h2⟩⟩
    have e0 : Env0 P w K mg (hidT s₁.heap H) callerA [] s₁ H := ⟨rfl, hM, fun b o e => of_hidT e, Nat.le_of_eq (hidT_size _ _), trivial, fun b hb => absurd (show b ∈ ([] : List Addr) from hb) (by simp), hok, .of_eq hg⟩
    have hO' : (fun _ => False : Addr → Prop) = Own [] [] := funext fun b => propext ⟨False.elim, fun ⟨n, o, h, _⟩ => by simp at h⟩
    have htb : LamX.Tabs (mkG P T K mg a sw lam).tbs H := by
      cases hlm : lam with
      | none => exact fun p hp => by simp [Gd.tbs, mkG] at hp
      | some z =>
        obtain ⟨c, P', q, ns'⟩ := z
        intro p hp
        obtain rfl : p = (P', q) := by simpa [Gd.tbs, mkG] using hp
        exact .nil (hH P' (by rw [hlm]; exact List.mem_singleton.mpr rfl))
    have hTB : ∀ c P q ns, lam = some (c, P, q, ns) → LamX.TabB (hidT s₁.heap H) mg c P := fun c P' q ns' e => by
      obtain ⟨t1, t2, t3⟩ := hT c P' q ns' e
      obtain ⟨bm, ob, b1, b2, b3, b4, b5, b6⟩ := hbm
      obtain ⟨o, es, ep, g1, g2, _⟩ := hns
      refine ⟨PySem.W.codeHd_of_K hKb t3, ⟨bm, ob, b1, b2, fun z => ?_, fun z => ?_, hidT_get b3 (noD b3 (fun vs n z => ?_) fun z => ?_), b4, b5, b6⟩, fun z => ?_⟩
      · rw [z, g1] at b3
        cases b3
        rw [g2] at b6
        cases b6
      · rw [z, t1] at b3
        cases b3
        cases b6
      · rw [b6] at z
        cases z
      · rw [b6] at z
        cases z
      · rw [z, t1] at g1
        cases g1
        cases g2
    have m0 : MRel (mkG P T K mg a sw lam) [] [] H := ⟨hsa, rfl, fun n _ _ _ _ h => by simp at h, fun n _ h => by simp at h, htb⟩
    have hsp : spD (mkG P T K mg a sw lam) g [.ref a] H (fun v _ => v = .bl true) ⟨fun _ _ _ => False, fun _ _ _ => False⟩ := by
      refine ⟨[], [], [.scr ns], m0, .cons (.scr rfl (hO' ▸ hS)) .nil, ?_⟩
      rw [hlaw]
      intro ι' H' v _ _ r
      cases r
      rfl
    refine codeAny_mono ((F sw _ hTB).run callerA [] s₁ H [.ref a] [.ref a] _ _ hr.f e0 (.cons rfl .nil) hsp) fun r s' h => ?_
    cases r with
    | error e =>
      rcases h with ⟨_, _, _, _, _, _, _, _, _, _, _, _, z⟩ | ⟨_, _, _, _, _, _, _, _, _, _, _, _, z⟩
      · exact z.elim
      · exact z.elim
    | ok fl =>
      cases fl with
      | next => exact False.elim h
      | brk => exact False.elim h
      | cont => exact False.elim h
      | ret u =>
        obtain ⟨v, H', os, bare, un, hok', r', q⟩ := h
        have q' : v = .bl true := q
        subst q'
        obtain rfl : u = Value.bool true := r'
        have key : ∀ b o, b ∉ tabL lam → s₁.heap.get? b = some o → s'.heap.get? b = some o := fun b o nb e => by
          rcases hO b with z | z | ⟨ob, xs, z⟩
          · exact un.keep b o e z (by intro z; exact absurd (show b ∈ ([] : List Addr) from z) (by simp)) (by simp)
          · exact absurd z nb
          · have z2 := un.frzs b ob _ z
            obtain ⟨e1, _⟩ := hok b _ z
            obtain ⟨e2, _⟩ := hok' b _ z2
            rw [e] at e1
            cases e1
            exact e2
        have grown : ∀ b ∈ tabL lam, ∃ more : Array Value, s'.heap.get? b = some { cls := .none, data := .fields more } := fun b hb => by
          obtain ⟨more, z⟩ := un.tbls b #[] (hH b hb)
          exact ⟨_, hok' b _ z⟩
        refine ⟨rfl, ⟨fun b o e => ?_, fun b o e => ?_⟩, os, bare⟩
        · by_cases hb : b ∈ tabL lam
          · obtain ⟨c, q, ns', el⟩ := tabL_mem hb
            obtain ⟨more, hm⟩ := grown b hb
            have cd := PySem.W.codeHd_of_K KX (hT c b q ns' el).2.2
            rw [isT hb] at e
            cases e
            exact .inr (.inl ⟨(cd.tab (isT hb)).isCodeTable, rfl, #[], more, rfl, by rw [Array.empty_append]; exact hm⟩)
          · exact .inl (key b o hb e)
        · by_cases hb : b ∈ tabL lam
          · obtain ⟨more, hm⟩ := grown b hb
            exact ⟨_, hm⟩
          · exact ⟨o, key b o hb e⟩
  cases hk : K.lookup a with
  | some o =>
    have e := KX a o hk
    rw [ha] at e
    cases e
    refine core true (fun b => if b ∈ tabL lam then some (.tbl #[]) else none) (fun b hb => if_pos hb) (fun b => ?_) (.inl ⟨rfl, _, vs.toArray, _, hk, rfl, rfl, rfl, by rw [List.size_toArray, lenV]; exact hl, by simpa using rv⟩) (fun z => nomatch z) (fun b u z => ?_) (fun b z => ?_) fun z => absurd (if_neg aT) z
    · by_cases hb : b ∈ tabL lam
      · exact .inr (.inl hb)
      · exact .inl (if_neg hb)
    · by_cases hb : b ∈ tabL lam
      · have z' := (if_pos hb).symm.trans z
        cases z'
        exact isT hb
      · have z' := (if_neg hb).symm.trans z
        cases z'
    · by_cases hb : b ∈ tabL lam
      · exact .inr hb
      · exact absurd (if_neg hb) z
  | none =>
    refine core false (fun b => if b = a then some (.frz { cls := .type "list", data := .seq vs.toArray } (.lst (ns.map V.int))) else if b ∈ tabL lam then some (.tbl #[]) else none) (fun b hb => ?_) (fun b => ?_) (.inr ⟨rfl, .inr ⟨_, if_pos rfl⟩, fun z => z⟩) (fun _ => ⟨_, if_pos rfl, nofun⟩) (fun b u z => ?_) (fun b z => ?_) fun _ => hk
    · have hne : ¬ b = a := fun z => aT (z ▸ hb)
      exact (if_neg hne).trans (if_pos hb)
    · by_cases hb : b = a
      · exact .inr (.inr ⟨_, _, if_pos hb⟩)
      · by_cases hb2 : b ∈ tabL lam
        · exact .inr (.inl hb2)
        · exact .inl ((if_neg hb).trans (if_neg hb2))
    · by_cases hb : b = a
      · have z' := (if_pos hb).symm.trans z
        cases z'
        subst hb
        exact ⟨ha, by rw [List.length_map]; exact hl, vs, _, rv, ha⟩
      · have z1 := (if_neg hb).symm.trans z
        by_cases hb2 : b ∈ tabL lam
        · have z' := (if_pos hb2).symm.trans z1
          cases z'
          exact isT hb2
        · have z' := (if_neg hb2).symm.trans z1
          cases z'
    · by_cases hb : b = a
      · exact .inl hb
      · by_cases hb2 : b ∈ tabL lam
        · exact .inr hb2
        · exact absurd ((if_neg hb).trans (if_neg hb2)) z
/-- THE END: what k_head leaves (case hc), from the tables and the law's answer -/
theorem walkDI {l : PySem.W.OpenLaw} {n k : Nat} {q : Program} {loose : List Str} {XP : (Str → Option Value) → Heap → Prop} {YP : World → Heap → Prop} {d : DefRec} {K : Params → PySem.W.Frag} (T : Tab) (codes : Nat → Option FnC) (f0 : Nat)
    (hn : l.most = some n) (hn2 : n ≤ sizeLine) (hdf : d.params.defaults = []) (hr : RoomG k callerA)
    (hf0 : T.fnm[f0]? = some d.name)
    (hlaw : ∀ ns : List Int, ns.length ≤ n → ∃ M, Fn T codes k f0 [.scr ns] [] = .ok (.bl true) M)
    (hY : ∀ (w : World) (h : Heap), YP w h → (K w.params).In h)
    (F : ∀ (w : World) (mg : Str → Option Value) (h : Heap), (K w.params).In h → h.Ns mainGlobals mg → ∀ (sa : Addr) (sw : Bool), TabOk T (mkG l.prog T (K w.params) mg sa sw none) ∧ DefsOk T (mkG l.prog T (K w.params) mg sa sw none) codes) :
    PySem.W.WalkO q loose XP YP l.row.toRowW d [] (fun f vs => PySem.call f vs) := by
  refine Att.attach_call hn hdf fun w s₀ s₁ mg mb fa o pm cd doc a vs ns G Y ho hd hcd hmg hobj hints hlen hg => ?_
  have KX := hY w _ Y
  obtain ⟨M0, hM⟩ := hlaw ns hlen
  refine law_callD (T := T) (k := k) (lam := none) KX G.T.g G.T.b G.T.builtins G.T.nolimit hg (fun _ _ _ _ e => nomatch e) G.T.bmain hobj hints (Nat.le_trans hlen hn2) hr (fun sw base _ => ?_) hM
  obtain ⟨tok, dok⟩ := F w mg _ KX G.T.g a sw
  exact fnD_all tok dok rfl (fun _ _ _ _ e => nomatch e) k f0 fa (.inl ⟨d.name, hf0, hmg⟩)
/-- the same where the law itself makes lambdas -/
theorem walkDL {l : PySem.W.OpenLaw} {n k : Nat} {q : Program} {loose : List Str} {XP : (Str → Option Value) → Heap → Prop} {YP : World → Heap → Prop} {d : DefRec} {K : Params → PySem.W.Frag} (T : Tab) (codes : Nat → Option FnC) (f0 : Nat) (ql : Str) (lns : List (Str × NameKind))
    (hn : l.most = some n) (hn2 : n ≤ sizeLine) (hdf : d.params.defaults = []) (hr : RoomG k callerA) (hrec : ((PyProof.Rows.recsOf q).any fun e => e.name == d.name) = true)
    (hf0 : T.fnm[f0]? = some d.name)
    (hlaw : ∀ ns : List Int, ns.length ≤ n → ∃ M, Fn T codes k f0 [.scr ns] [] = .ok (.bl true) M)
    (hY : ∀ (w : World) (h : Heap), YP w h → (K w.params).In h)
    (F : ∀ (w : World) (mg : Str → Option Value) (h : Heap), (K w.params).In h → h.Ns mainGlobals mg → ∃ (fa c P : Addr) (o : Obj) (fd : FuncData) (e : Value) (dd : Option Addr) (vs : Array Value) (sl : Array (Option Value)), mg d.name = some (.ref fa) ∧ (K w.params).lookup fa = some o ∧ o.data = .func fd ∧ fd.code = .ref c ∧
      (K w.params).lookup c = some ⟨e, dd, .fields vs, sl⟩ ∧ vs[11]? = some (.ref P) ∧ (K w.params).lookup P = none ∧ PySem.W.codeHdIn (K w.params) c P = true ∧
      ∀ (sa : Addr) (sw : Bool), TabOk T (mkG l.prog T (K w.params) mg sa sw (some (c, P, ql, lns))) ∧ DefsOk T (mkG l.prog T (K w.params) mg sa sw (some (c, P, ql, lns))) codes) :
    PySem.W.WalkO q loose XP YP l.row.toRowW d [] (fun f vs => PySem.call f vs) := by
  refine Att.attach_call hn hdf fun w s₀ s₁ mg mb fa o pm cd doc a vs ns G Y ho hd hcd hmg hobj hints hlen hg => ?_
  have KX := hY w _ Y
  obtain ⟨M0, hM⟩ := hlaw ns hlen
  obtain ⟨fa', c, P, o', fd, e, dd, vc, sl, h1, h2, h3, h4, h5, h6, h7, h8, h9⟩ := F w mg _ KX G.T.g
  rw [hmg] at h1
  cases h1
  have own : s₁.heap.get? P = some { cls := .none, data := .fields #[] } := by
    obtain ⟨dL, hm, hn1⟩ := List.any_eq_true.mp hrec
    have hn2 : dL.name = d.name := beq_iff_eq.mp hn1
    obtain ⟨a', o2, fd', c2, P2, k1, k2, k3, k4, k5, k6⟩ := G.T.tab dL hm
    rw [hn2, hmg] at k1
    cases k1
    rw [KX _ _ h2] at k2
    cases k2
    rw [h3] at k3
    cases k3
    rw [h4] at k4
    cases k4
    obtain ⟨⟨oc, vc', e1, _, e3, e4⟩, hP⟩ := k6
    rw [KX _ _ h5] at e1
    cases e1
    cases e3
    rw [h6] at e4
    cases e4
    exact hP
  refine law_callD (T := T) (k := k) (lam := some (c, P, ql, lns)) KX G.T.g G.T.b G.T.builtins G.T.nolimit hg (fun _ _ _ _ e => by cases e; exact ⟨own, h7, h8⟩) G.T.bmain hobj hints (Nat.le_trans hlen hn2) hr (fun sw base tb => ?_) hM
  obtain ⟨tok, dok⟩ := h9 a sw
  exact fnD_all tok dok rfl tb k f0 fa (.inl ⟨d.name, hf0, hmg⟩)
end DI
set_option maxHeartbeats 8000000
/-! # DI: an own exception class with two fields, from what the top has written -/
namespace DI
open PySem PySem.Spec PyProof.Rows L2
/-- the words of a class -/
def cBody (s : PySem.Stmt) : List PySem.Stmt := match s with
  | .ClassDef _ _ _ b _ _ _ _ _ _ _ => b
  | _ => []
def cInit (s : PySem.Stmt) : PySem.Stmt := (cBody s).getD 0 s
/-- the places of such an __init__'s words -/
def qOf (b : List PySem.Stmt) (i : Nat) : Pos := match b with
  | [.Expr (.Call (.Attribute (.Call (.Name _ p0) [] [] p1) _ p2) [.Name _ p3, .Name _ p4] [] p5) p6, .Assign [.Attribute (.Name _ p7) _ p8] (.Name _ p9) p10, .Assign [.Attribute (.Name _ p11) _ p12] (.Name _ p13) p14] =>
    [p0, p1, p2, p3, p4, p5, p6, p7, p8, p9, p10, p11, p12, p13, p14].getD i p0
  | _ => ⟨0, 0, 0, 0⟩
/-- the scope of such an __init__ -/
def iscB (ps : List Str) (sc : Scope) : Bool :=
  decide (sc.kind = .function) && !sc.isCoroutine && !sc.isGenerator && decide ps.Nodup && ps.all (fun x => decide (sc.names.lookup x = some .local)) && sc.names.all (fun y => !decide (y.2 = .cell)) && sc.names.all (fun y => !decide (y.2 = .free) || decide (y.1 = ("__class__" : Str))) &&
    decide (sc.names.lookup ("super" : Str) = some .globalImplicit) && decide (sc.names.lookup ("__class__" : Str) = some .free)
theorem iscB_ok {ps : List Str} {sc : Scope} (h : iscB ps sc = true) : IScope ps ps sc := by
  unfold iscB at h
  simp only [Bool.and_eq_true, Bool.not_eq_true', decide_eq_true_eq, List.all_eq_true, Bool.or_eq_true, decide_eq_false_iff_not] at h
  obtain ⟨⟨⟨⟨⟨⟨⟨⟨h1, h2⟩, h3⟩, h4⟩, h5⟩, h6⟩, h7⟩, h8⟩, h9⟩ := h
  refine ⟨h1, h2, h3, h4, rfl, h5, fun y hy => h6 y hy, fun y hy => ?_, h8, h9⟩
  have hm : (y, NameKind.free) ∈ sc.names := by
    have : ∀ l : List (Str × NameKind), l.lookup y = some .free → (y, NameKind.free) ∈ l := by
      intro l
      induction l with
      | nil => intro z; cases z
      | cons p l ih =>
        intro z
        obtain ⟨p1, p2⟩ := p
        by_cases e : y = p1
        · subst e
          simp [List.lookup] at z
          subst z
          exact List.mem_cons_self
        · have e2 : (y == p1) = false := by simpa using e
          simp [List.lookup, e2] at z
          exact List.mem_cons_of_mem _ (ih z)
    exact this _ hy
  rcases h7 _ hm with z | z
  · exact absurd rfl z
  · exact z
/-- what is seen by the words alone -/
structure IStat (P : Program) (st : PySem.Stmt) (sf a1 a2 f1 f2 : Str) : Prop where
  body : dBody st = ini2 sf a1 a2 f1 f2 (qOf (dBody st))
  sc : iscB [sf, a1, a2] (dScope st) = true
  call : CallAt a1 a2 (qOf (dBody st))
  par : ∃ ar, ((dArgs st).posonlyargs ++ (dArgs st).args).head? = some ar ∧ ar.arg = sf
  bind : ∀ (qual : Str) (kV doc pm : Value) (an : Option Addr) (cdv ct : Value) (cc : Addr) (us : List Value), us.length = 3 → bindArgs (PySem.W.ksFn "__init__" qual (dArgs st) (dBody st) (dScope st) .none kV doc pm an cdv ct cc) ⟨us, []⟩ = pure ([sf, a1, a2].zip us)
  nd : (decide (f1 ≠ f2) && ([sf, a1, a2].all fun x => !(x == ("__debug__" : Str)) && !(x == ("__classdict__" : Str)))) = true
  top : (P.main.scope.names.lookup ("super" : Str)).isSome = false
/-- what the written part tells of the class -/
def IFact (P : Program) (K : PySem.W.Frag) (x : Str) (fs : List Str) : Prop := ∃ (f1 f2 : Str), fs = [f1, f2] ∧
  ∃ (C fI : Addr) (fd : FuncData) (ps : List Str), PySem.W.nsIn K mainGlobals x = some (some (.ref C)) ∧ f1 ≠ f2 ∧ OexC K C ∧ XfC K C ∧ PySem.W.findIn K (.ref C) f1 = some none ∧ PySem.W.findIn K (.ref C) f2 = some none ∧
  PySem.W.findIn K (.ref C) "__init__" = some (some (.ref fI)) ∧ PySem.W.typeIn K (.ref fI) = some (.type "function") ∧ L2.Binds K fd ps [] ∧ PySem.W.nsIn K mainGlobals "super" = some none ∧
  ∀ (w : World) (mg : Str → Option Value) (base : Heap), mg "super" = none → FnOk P w K mg base noCX 1 fI fd ps (sp2 C f1 f2)
theorem ifact {P : Program} {K : PySem.W.Frag} {x qual sf a1 a2 f1 f2 : Str} {st : PySem.Stmt} {C fI cda cc : Addr} {oc : Value} {od : Option Addr} {kV doc pm : Value} {an : Option Addr} {ct : Value} {osl : Array (Option Value)}
    {nm q N bs bm sn sub ab col dd k0 k1 k2 k3 k5}
    {ccl : Value} {cdd : Option Addr} {vs0 : Array Value} {ccs : Array (Option Value)} {file : Str} {tf : Tok} {cl : Value} {cld : Option Addr} {csl : Array (Option Value)}
    (S : IStat P st sf a1 a2 f1 f2)
    (zA : PySem.W.nsIn K mainGlobals x = some (some (.ref C)))
    (zO : K.lookup C = some (excClassObj nm q C N bs bm true sn sub ab col dd k0 k1 k2 k3 k5 "ValueError.__new__"))
    (zV : PySem.HandSPX.refsVE bm = true)
    (zS : PySem.W.findIn K (.ref C) "__setattr__" = some (some (.builtin "object.__setattr__")))
    (zB : PySem.W.subIn K (.ref C) (.type "BaseException") = some true)
    (zT : PySem.W.typeIn K (.ref C) = some (.type "type"))
    (zK : PySem.W.keepIn K (.ref C) = true)
    (zG : PySem.W.findIn K (.ref C) "__getattribute__" = some (some (.builtin "BaseException.__getattribute__")))
    (zH : PySem.W.findIn K (.ref C) "__getattr__" = some none)
    (zD : PySem.W.hasDictIn K C = true)
    (z1 : PySem.W.findIn K (.ref C) f1 = some none)
    (z2 : PySem.W.findIn K (.ref C) f2 = some none)
    (zI : PySem.W.findIn K (.ref C) "__init__" = some (some (.ref fI)))
    (zY : PySem.W.typeIn K (.ref fI) = some (.type "function"))
    (zF : K.lookup fI = some ⟨oc, od, .func (PySem.W.ksFn "__init__" qual (dArgs st) (dBody st) (dScope st) .none kV doc pm an (.ref cda) ct cc), osl⟩)
    (zC : PySem.W.codeIn K (.ref cda) qual = true)
    (zE : K.lookup cda = some ⟨ccl, cdd, .fields vs0, ccs⟩)
    (zN : vs0[2]? = some (.str file tf))
    (zP : ((P.main.file : Str) == file) = true)
    (zL : K.lookup cc = some ⟨cl, cld, .cell (some (.ref C)), csl⟩)
    (zM : PySem.W.mroIn K C (.ref C) = some true)
    (zU : PySem.W.ks_superIn K C C "__init__" = some (some (.builtin "ValueError.__init__")))
    (zW : PySem.W.subIn K (.ref C) (.type "ValueError") = some true)
    (zQ : PySem.W.nsIn K mainGlobals "super" = some none)
    (zX : PySem.W.nsIn K cStatics "thirdparty.any" = some none) : IFact P K x [f1, f2] := by
  obtain ⟨s1, s2, s3, s4, s5, s6, s7⟩ := S
  have OX : OexC K C := ⟨⟨nm, q, N, bs, bm, sn, sub, ab, col, dd, k0, k1, k2, k3, k5, zO, zV⟩, zS, zB, zT, zK⟩
  simp only [Bool.and_eq_true, decide_eq_true_eq, List.all_cons, List.all_nil, Bool.not_eq_true', Bool.and_true] at s6
  obtain ⟨n0, ⟨n1, n2⟩, ⟨n3, n4⟩, n5, n6⟩ := s6
  refine ⟨f1, f2, rfl, C, fI, PySem.W.ksFn "__init__" qual (dArgs st) (dBody st) (dScope st) .none kV doc pm an (.ref cda) ct cc, [sf, a1, a2], zA, n0, OX, ⟨zG, zH, zB, zD⟩, z1, z2, zI, zY, .all (fun us hl => s5 _ _ _ _ _ _ _ _ us hl), zQ, fun w mg base hs => ?_⟩
  have T : InF P K mg C fI cda cc (PySem.W.ksFn "__init__" qual (dArgs st) (dBody st) (dScope st) .none kV doc pm an (.ref cda) ct cc) sf :=
    ⟨⟨_, _, _, zF⟩, s4, ⟨_, _, _, _, _, _, zE, zN, zP⟩, ⟨_, _, _, zL⟩, OX, zM, zU, zW, hs, s7, zX⟩
  have T' := T
  rw [s1] at T' ⊢
  exact ini2_ok (iscB_ok s2) T' zC s3 z1 z2 n1 n3 n5 n2 n4 n6
end DI
set_option maxHeartbeats 8000000
/-! # DI: the tables, from what the top has written -/
namespace DI
open PySem PySem.Spec L2

structure DEnt where
  nm : Str
  st : PySem.Stmt
  ps : List Str
  code : FnC
  cl : Option Nat := none
  qn : Str := ""
/-- its qualified name -/
def DEnt.q (d : DEnt) : Str := match d.cl with
  | none => d.nm
  | some _ => d.qn
/-- a def stands behind the top -/
def DFact (K : PySem.W.Frag) (x : Str) (st : PySem.Stmt) : Prop :=
  ∃ f, PySem.W.nsIn K mainGlobals x = some (some (.ref f)) ∧ PySem.W.keepIn K (.ref f) = true ∧ ∃ (oc : Value) (od : Option Addr) (kV doc pm : Value) (an : Option Addr) (cdv ct : Value) (osl : Array (Option Value)),
    K.lookup f = some ⟨oc, od, .func (PySem.W.fnOf x x (dArgs st) (dBody st) (dScope st) .none kV doc pm an cdv ct), osl⟩ ∧ PySem.W.codeIn K cdv x = true
theorem dfact {K : PySem.W.Frag} {x : Str} {st : PySem.Stmt} {f : Addr} {oc : Value} {od : Option Addr} {kV doc pm : Value} {an : Option Addr} {cdv ct : Value} {osl : Array (Option Value)}
    (a : PySem.W.nsIn K mainGlobals x = some (some (.ref f))) (l : K.lookup f = some ⟨oc, od, .func (PySem.W.fnOf x x (dArgs st) (dBody st) (dScope st) .none kV doc pm an cdv ct), osl⟩) (c : PySem.W.codeIn K cdv x = true) (k : PySem.W.keepIn K (.ref f) = true) : DFact K x st :=
  ⟨f, a, k, oc, od, kV, doc, pm, an, cdv, ct, osl, l, c⟩

/-- a method stands in its class -/
def MFact (K : PySem.W.Frag) (x m q : Str) (st : PySem.Stmt) : Prop :=
  ∃ C f, PySem.W.nsIn K mainGlobals x = some (some (.ref C)) ∧ Meth K C m f ∧ (m = "__init__" → Mk K C f) ∧ ∃ (oc : Value) (od : Option Addr) (kV doc pm : Value) (an : Option Addr) (cdv ct : Value) (osl : Array (Option Value)),
    K.lookup f = some ⟨oc, od, .func (PySem.W.fnOf m q (dArgs st) (dBody st) (dScope st) .none kV doc pm an cdv ct), osl⟩ ∧ PySem.W.codeIn K cdv q = true
theorem mfact {K : PySem.W.Frag} {x m q : Str} {st : PySem.Stmt} {C f : Addr} {oc : Value} {od : Option Addr} {kV doc pm : Value} {an : Option Addr} {cdv ct : Value} {osl : Array (Option Value)}
    (a : PySem.W.nsIn K mainGlobals x = some (some (.ref C))) (b : PySem.W.findIn K (.ref C) m = some (some (.ref f))) (l : K.lookup f = some ⟨oc, od, .func (PySem.W.fnOf m q (dArgs st) (dBody st) (dScope st) .none kV doc pm an cdv ct), osl⟩) (n : PySem.W.isFn K (.ref f) = true) (k : PySem.W.keepIn K (.ref f) = true) (c : PySem.W.codeIn K cdv q = true)
    (hm : ¬ m = "__init__") : MFact K x m q st := ⟨C, f, a, ⟨b, n, k⟩, fun z => absurd z hm, oc, od, kV, doc, pm, an, cdv, ct, osl, l, c⟩
theorem mfactI {K : PySem.W.Frag} {x m q : Str} {st : PySem.Stmt} {C f : Addr} {oc : Value} {od : Option Addr} {kV doc pm : Value} {an : Option Addr} {cdv ct : Value} {osl : Array (Option Value)}
    (a : PySem.W.nsIn K mainGlobals x = some (some (.ref C))) (b : PySem.W.findIn K (.ref C) m = some (some (.ref f))) (l : K.lookup f = some ⟨oc, od, .func (PySem.W.fnOf m q (dArgs st) (dBody st) (dScope st) .none kV doc pm an cdv ct), osl⟩) (n : PySem.W.isFn K (.ref f) = true) (k : PySem.W.keepIn K (.ref f) = true) (c : PySem.W.codeIn K cdv q = true)
    (mk : PySem.W.makesIn K C = true) (kc : PySem.W.keepIn K (.ref C) = true) (hm : m = "__init__") : MFact K x m q st := ⟨C, f, a, ⟨b, n, k⟩, fun _ => ⟨mk, hm ▸ b, n, kc⟩, oc, od, kV, doc, pm, an, cdv, ct, osl, l, c⟩
/-- a class whose instances are made and changed -/
def OFact (K : PySem.W.Frag) (x : Str) (fs : List Str) : Prop := ∃ C, PySem.W.nsIn K mainGlobals x = some (some (.ref C)) ∧ Cls K C ∧ ∀ f ∈ fs, NoAttr K C f
theorem ofact {K : PySem.W.Frag} {x : Str} {fs : List Str} {C : Addr} (a : PySem.W.nsIn K mainGlobals x = some (some (.ref C))) (b : PySem.W.plainGet K C Str.empty = true) (c : PySem.W.hasDictIn K C = true) (d : PySem.W.plainOver K C = true) (e : PySem.W.findIn K (.ref C) "__setattr__" = some (some (.builtin "object.__setattr__")))
    (h : ∀ f ∈ fs, PySem.W.findIn K (.ref C) f = some none) : OFact K x fs := ⟨C, a, ⟨b, c, d, e⟩, h⟩
theorem fd_nil {K : PySem.W.Frag} {C : Addr} : ∀ f ∈ ([] : List Str), PySem.W.findIn K (.ref C) f = some none := fun _ h => nomatch h
theorem fd_cons {K : PySem.W.Frag} {C : Addr} {g : Str} {fs : List Str} (a : PySem.W.findIn K (.ref C) g = some none) (b : ∀ f ∈ fs, PySem.W.findIn K (.ref C) f = some none) : ∀ f ∈ g :: fs, PySem.W.findIn K (.ref C) f = some none := fun f h => (List.mem_cons.mp h).elim (fun e => e ▸ a) (b f)
/-- a def or a method -/
def EntFact (T : Tab) (K : PySem.W.Frag) (d : DEnt) : Prop := match d.cl with
  | none => DFact K d.nm d.st
  | some c => ∀ p, T.cnm[c]? = some p → MFact K p.1 d.nm d.qn d.st
/-- what is seen of the classes by the tables alone -/
def ownB (T : Tab) (ents : List DEnt) : Bool := (ents.take T.fnm.length).all (fun d => d.cl.isNone) && (ents.drop T.fnm.length).all (fun d => d.cl.isSome) && T.own.all (fun c => match T.cnm[c]? with
    | some p => decide p.2.Nodup && decide (p.2.length ≤ 900)
    | none => false) && T.mts.all fun z => T.own.contains z.1 && match T.cnm[z.1]? with
    | some p => !p.2.contains z.2
    | none => false
mutual
def cpB (K : PySem.W.Frag) : PV → Value → Bool
  | .int i, v => match v with
    | .int j _ => decide (i = j)
    | _ => false
  | .bl i, v => match v with
    | .bool j => decide (i = j)
    | _ => false
  | .str i, v => match v with
    | .str j _ => decide (i = j)
    | _ => false
  | .non, v => match v with
    | .none => true
    | _ => false
  | .tup ps, v => match v with
    | .ref a => match K.lookup a with
      | some ⟨.type t, _, .seq its _, _⟩ => decide (t = "tuple") && decide (its.size ≤ 64) && cpsB K ps its.toList
      | _ => false
    | _ => false
  | _, _ => false
def cpsB (K : PySem.W.Frag) : List PV → List Value → Bool
  | [], [] => true
  | p :: ps, v :: vs => cpB K p v && cpsB K ps vs
  | _, _ => false
end
mutual
theorem cpB_ok {P : Program} {T : Tab} {K : PySem.W.Frag} {mg : Str → Option Value} {sa : Addr} {sw : Bool} {lam : Option (Addr × Addr × Str × List (Str × NameKind))} : ∀ (p : PV) (u : Value), cpB K p u = true → ∃ v, RelV v u ∧ ∀ ι H O, Rp (mkG P T K mg sa sw lam) ι H O p v
  | .int i, u, h => by
    unfold cpB at h
    split at h
    · have h := of_decide_eq_true h
      subst h
      exact ⟨.int i, ⟨_, rfl⟩, fun _ _ _ => .int i⟩
    · cases h
  | .bl i, u, h => by
    unfold cpB at h
    split at h
    · have h := of_decide_eq_true h
      subst h
      exact ⟨.bl i, rfl, fun _ _ _ => .bl i⟩
    · cases h
  | .str i, u, h => by
    unfold cpB at h
    split at h
    · have h := of_decide_eq_true h
      subst h
      exact ⟨.str i, ⟨_, rfl⟩, fun _ _ _ => .str i⟩
    · cases h
  | .non, u, h => by
    unfold cpB at h
    split at h
    · exact ⟨.non, rfl, fun _ _ _ => .non⟩
    · cases h
  | .tup ps, u, h => by
    unfold cpB at h
    split at h
    · rename_i a
      split at h
      · rename_i t dd its n sl hl
        simp only [Bool.and_eq_true, decide_eq_true_eq] at h
        obtain ⟨⟨h1, h2⟩, h3⟩ := h
        subst h1
        obtain ⟨vs, r1, r2⟩ := cpsB_ok (P := P) (T := T) (mg := mg) (sa := sa) (sw := sw) (lam := lam) ps its.toList h3
        have hz : its.size ≤ sizeLine := Nat.le_trans h2 (by decide)
        refine ⟨.ref a, rfl, fun ι H O => .tup (.inr ⟨_, its, n, hl, rfl, rfl, hz, r1⟩) ?_ (r2 ι H O)⟩
        have e1 := (r2 ι H O).length
        have e2 := r1.length
        simp only [Array.length_toList] at e2
        omega
      · cases h
    · cases h
  | .lst _, u, h => by unfold cpB at h; cases h
  | .ref _, u, h => by unfold cpB at h; cases h
  | .fn _, u, h => by unfold cpB at h; cases h
  | .ty _, u, h => by unfold cpB at h; cases h
  | .scr _, u, h => by unfold cpB at h; cases h
theorem cpsB_ok {P : Program} {T : Tab} {K : PySem.W.Frag} {mg : Str → Option Value} {sa : Addr} {sw : Bool} {lam : Option (Addr × Addr × Str × List (Str × NameKind))} : ∀ (ps : List PV) (us : List Value), cpsB K ps us = true → ∃ vs, Vals vs us ∧ ∀ ι H O, Rps (mkG P T K mg sa sw lam) ι H O ps vs
  | [], [], h => ⟨[], .nil, fun _ _ _ => .nil⟩
  | [], _ :: _, h => by unfold cpsB at h; cases h
  | _ :: _, [], h => by unfold cpsB at h; cases h
  | p :: ps, u :: us, h => by
    unfold cpsB at h
    rw [Bool.and_eq_true] at h
    obtain ⟨v, h1, h2⟩ := cpB_ok (P := P) (T := T) (mg := mg) (sa := sa) (sw := sw) (lam := lam) p u h.1
    obtain ⟨vs, h3, h4⟩ := cpsB_ok (P := P) (T := T) (mg := mg) (sa := sa) (sw := sw) (lam := lam) ps us h.2
    exact ⟨v :: vs, .cons h1 h3, fun ι H O => .cons (h2 ι H O) (h4 ι H O)⟩
end
def CFact (K : PySem.W.Frag) (x : Str) (p : PV) : Prop := ∃ u, PySem.W.nsIn K mainGlobals x = some (some u) ∧ cpB K p u = true
/-- a flat tuple -/
def flatB : List PV → List Value → Bool
  | [], [] => true
  | .int i :: ps, .int j _ :: vs => decide (i = j) && flatB ps vs
  | .str i :: ps, .str j _ :: vs => decide (i = j) && flatB ps vs
  | .bl i :: ps, .bool j :: vs => decide (i = j) && flatB ps vs
  | .non :: ps, .none :: vs => flatB ps vs
  | _, _ => false
theorem flatB_ok {K : PySem.W.Frag} : ∀ {ps : List PV} {vs : List Value}, flatB ps vs = true → cpsB K ps vs = true
  | [], [], _ => rfl
  | [], _ :: _, h => by simp [flatB] at h
  | p :: ps, [], h => by cases p <;> simp [flatB] at h
  | p :: ps, v :: vs, h => by
    cases p <;> cases v <;> simp only [flatB, Bool.and_eq_true, decide_eq_true_eq] at h <;> first
      | (obtain ⟨rfl, h⟩ := h; simp [cpsB, cpB, flatB_ok h])
      | simp [cpsB, cpB, flatB_ok h]
      | cases h
theorem cfactA {K : PySem.W.Frag} {x : Str} {p : PV} {u : Value} (a : PySem.W.nsIn K mainGlobals x = some (some u)) (b : flatB [p] [u] = true) : CFact K x p :=
  ⟨u, a, by have := flatB_ok (K := K) b; unfold cpsB at this; rw [Bool.and_eq_true] at this; exact this.1⟩
theorem cfactT {K : PySem.W.Frag} {x : Str} {ps : List PV} {a : Addr} {dd : Option Addr} {its : Array Value} {n : Nat} {sl : Array (Option Value)} (h : PySem.W.nsIn K mainGlobals x = some (some (.ref a))) (l : K.lookup a = some ⟨.type "tuple", dd, .seq its n, sl⟩) (b : (decide (its.size ≤ 64) && flatB ps its.toList) = true) : CFact K x (.tup ps) := by
  rw [Bool.and_eq_true] at b
  refine ⟨_, h, ?_⟩
  unfold cpB
  simp only [l, b.1, flatB_ok b.2, Bool.and_true, decide_true]
theorem cfact {K : PySem.W.Frag} {x : Str} {p : PV} {u : Value} (a : PySem.W.nsIn K mainGlobals x = some (some u)) (b : cpB K p u = true) : CFact K x p := ⟨u, a, b⟩
/-- a name of a built-in, left alone -/
def NFact (K : PySem.W.Frag) (x : Str) : Prop := PySem.W.nsIn K mainGlobals x = some none
/-- a class -/
def KFact (K : PySem.W.Frag) (x : Str) : Prop := ∃ C, PySem.W.nsIn K mainGlobals x = some (some (.ref C))
theorem kfact {K : PySem.W.Frag} {x : Str} {C : Addr} (a : PySem.W.nsIn K mainGlobals x = some (some (.ref C))) : KFact K x := ⟨C, a⟩
/-- an exception class without own __init__ -/
def EFact (K : PySem.W.Frag) (x : Str) : Prop :=
  ∃ C, PySem.W.nsIn K mainGlobals x = some (some (.ref C)) ∧ PySem.W.keepIn K (.ref C) = true ∧ PySem.W.subIn K (.ref C) (.type "BaseException") = some true ∧ PySem.W.typeIn K (.ref C) = some (.type "type") ∧
    ∃ (bmB : List Value) (B newId initId : String), ExcBaseFacts B newId initId bmB ∧ PySem.W.excIn K C bmB newId = true
theorem efactV {K : PySem.W.Frag} {x : Str} {C : Addr} (a : PySem.W.nsIn K mainGlobals x = some (some (.ref C))) (q : PySem.W.excIn K C [.type "ValueError", .type "Exception", .type "BaseException", .type "object"] "ValueError.__new__" = true) (k : PySem.W.keepIn K (.ref C) = true)
    (s : PySem.W.subIn K (.ref C) (.type "BaseException") = some true) (t : PySem.W.typeIn K (.ref C) = some (.type "type")) : EFact K x :=
  ⟨C, a, k, s, t, _, _, _, _, PySem.F.excBase_ValueError, q⟩
/-- a class catches another or not -/
def XFact (K : PySem.W.Frag) (x y : Str) (b : Bool) : Prop := ∃ C D, PySem.W.nsIn K mainGlobals x = some (some (.ref C)) ∧ PySem.W.nsIn K mainGlobals y = some (some (.ref D)) ∧ PySem.W.exmOne K (.ref C) (.ref D) = some b
theorem exm_mk {K : PySem.W.Frag} {R S : Addr} {b : Bool} (h1 : PySem.W.subIn K (.ref S) (.type "BaseException") = some true) (h2 : PySem.W.isClsIn K S = true) (h3 : PySem.W.typeIn K (.ref S) = some (.type "type")) (h4 : PySem.W.subIn K (.ref R) (.ref S) = some b) :
    PySem.W.exmOne K (.ref R) (.ref S) = some b := by
  have e1 : (PySem.W.subIn K (.ref S) (.type "BaseException") == some true) = true := by rw [h1] <;> rfl
  have e2 : ((PySem.W.clsIn K S).isSome && PySem.W.typeIn K (.ref S) == some (.type "type")) = true := by
    have h2' : (PySem.W.clsIn K S).isSome = true := h2
    rw [h2', h3] <;> rfl
  show (if (PySem.W.subIn K (.ref S) (.type "BaseException") == some true) = true then (if ((PySem.W.clsIn K S).isSome && PySem.W.typeIn K (.ref S) == some (.type "type")) = true then PySem.W.subIn K (.ref R) (.ref S) else none) else none) = some b
  rw [if_pos e1, if_pos e2]
  exact h4
theorem xfact {K : PySem.W.Frag} {x y : Str} {b : Bool} {C D : Addr} (a : PySem.W.nsIn K mainGlobals x = some (some (.ref C))) (a' : PySem.W.nsIn K mainGlobals y = some (some (.ref D))) (h1 : PySem.W.subIn K (.ref D) (.type "BaseException") = some true) (h2 : PySem.W.isClsIn K D = true) (h3 : PySem.W.typeIn K (.ref D) = some (.type "type")) (h4 : PySem.W.subIn K (.ref C) (.ref D) = some b) : XFact K x y b := ⟨C, D, a, a', exm_mk h1 h2 h3 h4⟩
/-- all of a list -/
def AllP {α : Type} (P : α → Prop) : List α → Prop
  | [] => True
  | a :: l => P a ∧ AllP P l
theorem AllP.of {α : Type} {P : α → Prop} : ∀ {l : List α}, AllP P l → ∀ a ∈ l, P a
  | [], _, _, h => nomatch h
  | _ :: _, ⟨h1, h2⟩, a, h => (List.mem_cons.mp h).elim (fun e => e ▸ h1) fun h => AllP.of h2 a h
/-- a def that tries what it got, seen by the words alone -/
def hrdB (T : Tab) (h : HrdC) (d : DEnt) (a : Str) (N : List Str) : Bool :=
  scB N [a] (dScope d.st) && decide (d.ps = [a]) && decide (N.length = h.n) && decide (N[0]? = some a) && !decide (T.lns = some (dScope d.st).names) && dbgB a && dbgB d.nm && (match dBody d.st with
    | [.Try [.Return (some (.Tuple [.Constant (.str w) _ _, .Call (.Name b _) [] [] _] _ _)) _] (hd :: hds) [] [] _] => decide (w = h.told) && decide (b = a) && chkHs T N (dScope d.st) h.hs (hd :: hds)
    | _ => false)
def HrdFact (T : Tab) (ents : List DEnt) (h : HrdC) : Prop := ∃ (d : DEnt) (a : Str) (N : List Str), ents[h.f]? = some d ∧ DBinds d.nm d.st [a] ∧ hrdB T h d a N = true ∧ d.cl = none
theorem hrdB_ok {T : Tab} {h : HrdC} {d : DEnt} {a : Str} {N : List Str} (k : hrdB T h d a N = true) : HrdSt T h d.st a N ∧ dbgB d.nm = true := by
  unfold hrdB at k
  simp only [Bool.and_eq_true, decide_eq_true_eq, Bool.not_eq_true', decide_eq_false_iff_not] at k
  obtain ⟨⟨⟨⟨⟨⟨⟨k1, k2⟩, k3⟩, k4⟩, k5⟩, k6⟩, k7⟩, k8⟩ := k
  refine ⟨⟨scB_ok k1, k3, k4, k5, k6, ?_⟩, k7⟩
  split at k8
  · rename_i hb
    simp only [Bool.and_eq_true, decide_eq_true_eq] at k8
    obtain ⟨⟨rfl, rfl⟩, z⟩ := k8
    exact ⟨_, _, _, _, _, _, _, _, _, _, hb, z⟩
  · cases k8
/-- what the top has written, as the tables want it -/
structure TabFacts (P : Program) (T : Tab) (ents : List DEnt) (K : PySem.W.Frag) : Prop where
  df : AllP (fun d : DEnt => EntFact T K d) ents
  cst : AllP (fun p : Str × PV => CFact K p.1 p.2) T.cst
  free : AllP (fun x : Str => NFact K x) T.free
  cls : AllP (fun p : Str × List Str => KFact K p.1) T.cnm
  own : AllP (fun c : Nat => ∀ p, T.cnm[c]? = some p → OFact K p.1 p.2) T.own
  ex0 : AllP (fun c : Nat => ∀ p, T.cnm[c]? = some p → EFact K p.1) T.ex0
  ex2 : AllP (fun c : Nat => ∀ p, T.cnm[c]? = some p → IFact P K p.1 p.2) T.ex2
  hrd : AllP (fun h : HrdC => HrdFact T ents h) T.hrd
  exm : AllP (fun z : Nat × Nat × Bool => ∀ p q, T.cnm[z.1]? = some p → T.cnm[z.2.1]? = some q → XFact K p.1 q.1 z.2.2) T.exm
theorem ownB_plain {T : Tab} {ents : List DEnt} (h : ownB T ents = true) {d : DEnt} (hd : d ∈ ents.take T.fnm.length) : d.cl = none := by
  unfold ownB at h
  simp only [Bool.and_eq_true] at h
  exact Option.isNone_iff_eq_none.mp (List.all_eq_true.mp h.1.1.1 d hd)
theorem ownB_meth {T : Tab} {ents : List DEnt} (h : ownB T ents = true) {d : DEnt} (hd : d ∈ ents.drop T.fnm.length) : ∃ c, d.cl = some c := by
  unfold ownB at h
  simp only [Bool.and_eq_true] at h
  exact Option.isSome_iff_exists.mp (List.all_eq_true.mp h.1.1.2 d hd)
theorem ownB_cls {T : Tab} {ents : List DEnt} (h : ownB T ents = true) {c : Nat} (hc : c ∈ T.own) {x : Str} {fs : List Str} (e : T.cnm[c]? = some (x, fs)) : fs.Nodup ∧ fs.length ≤ 900 := by
  unfold ownB at h
  simp only [Bool.and_eq_true] at h
  have := List.all_eq_true.mp h.1.2 c hc
  rw [e] at this
  simpa using this
theorem ownB_met {T : Tab} {ents : List DEnt} (h : ownB T ents = true) {c : Nat} {m : Str} (hm : (c, m) ∈ T.mts) : ∃ p, c ∈ T.own ∧ T.cnm[c]? = some p ∧ m ∉ p.2 := by
  unfold ownB at h
  simp only [Bool.and_eq_true] at h
  have := List.all_eq_true.mp h.2 _ hm
  rw [Bool.and_eq_true] at this
  obtain ⟨h1, h2⟩ := this
  split at h2
  · rename_i p hp
    exact ⟨p, by simpa using h1, hp, by simpa using h2⟩
  · cases h2
theorem fnm_at {T : Tab} {ents : List DEnt} (hT : T.fnm = (ents.take T.fnm.length).map (·.nm)) (hO : ownB T ents = true) {f : Nat} {d : DEnt} (h : ents[f]? = some d) (hc : d.cl = none) : T.fnm[f]? = some d.nm := by
  by_cases hf : f < T.fnm.length
  · rw [hT, List.getElem?_map, List.getElem?_take_of_lt hf, h]
    rfl
  · have : d ∈ ents.drop T.fnm.length := List.mem_of_getElem? (i := f - T.fnm.length) (by rw [List.getElem?_drop, Nat.add_sub_cancel' (Nat.le_of_not_lt hf)]; exact h)
    obtain ⟨c, hc'⟩ := ownB_meth hO this
    rw [hc] at hc'
    cases hc'
theorem tabOk_of {P : Program} {T : Tab} {ents : List DEnt} {K : PySem.W.Frag} {h : Heap} {mg : Str → Option Value} (hT : T.fnm = (ents.take T.fnm.length).map (·.nm)) (hM : T.mts = (ents.drop T.fnm.length).map fun d => (d.cl.getD 0, d.nm)) (hO : ownB T ents = true) (F : TabFacts P T ents K) (KX : K.In h) (hg : h.Ns mainGlobals mg) (sa : Addr) (sw : Bool) {lam : Option (Addr × Addr × Str × List (Str × NameKind))} (hlam : T.lns = lam.map fun z => z.2.2.2) : TabOk T (mkG P T K mg sa sw lam) where
  cst := fun k x p e => by
    obtain ⟨u, h1, h2⟩ := F.cst.of (x, p) (List.mem_of_getElem? e)
    obtain ⟨v, h3, h4⟩ := cpB_ok (P := P) (T := T) (mg := mg) (sa := sa) (sw := sw) (lam := lam) p u h2
    exact ⟨u, v, PySem.W.mg_of KX hg h1, h3, h4⟩
  fnm := fun f x e => by
    have hm : x ∈ T.fnm := List.mem_of_getElem? e
    rw [hT] at hm
    obtain ⟨d, hd, rfl⟩ := List.mem_map.mp hm
    have hf := F.df.of d (List.mem_of_mem_take hd)
    unfold EntFact at hf
    rw [ownB_plain hO hd] at hf
    obtain ⟨a, h1, _⟩ := hf
    exact ⟨e, a, PySem.W.mg_of KX hg h1⟩
  cnm := fun c x fs e => by
    obtain ⟨C, h1⟩ := F.cls.of (x, fs) (List.mem_of_getElem? e)
    exact ⟨e, C, PySem.W.mg_of KX hg h1⟩
  free := fun x hx => PySem.W.mg_none_of KX hg (F.free.of x hx)
  ex0 := fun c hc x fs e => by
    obtain ⟨C, h1, h2, h3, h4, bmB, B, newId, initId, h5, h6⟩ := F.ex0.of c hc (x, fs) e
    exact ⟨C, bmB, B, newId, initId, h5, h6, PySem.W.mg_of KX hg h1, h2, h3, h4⟩
  ex2 := fun c hc x fs e => by
    obtain ⟨f1, f2, h0, C, fI, fd, ps, h1, h2, h3, h4, h5, h6, h7, h8, h9, h10, h11⟩ := F.ex2.of c hc (x, fs) e
    have hs := PySem.W.mg_none_of KX hg h10
    exact ⟨f1, f2, h0, C, fI, fd, ps, PySem.W.mg_of KX hg h1, h2, h3, h4, h5, h6, h7, h8, h9, fun w base => h11 w mg base hs⟩
  own := fun c hc x fs C e hC => by
    obtain ⟨C', h1, h2, h3⟩ := F.own.of c hc (x, fs) e
    have h1 := PySem.W.mg_of KX hg h1
    have hC : mg x = some (.ref C) := hC
    rw [hC] at h1
    cases h1
    obtain ⟨n1, n2⟩ := ownB_cls hO hc e
    exact ⟨h2, h3, n1, n2⟩
  met := fun j c m e => by
    have hmem := List.mem_of_getElem? e
    obtain ⟨p, k1, k2, k3⟩ := ownB_met hO hmem
    have e0 := e
    rw [hM, List.getElem?_map] at e
    cases ed : (ents.drop T.fnm.length)[j]? with
    | none => rw [ed] at e; cases e
    | some d =>
      rw [ed] at e
      have e : (d.cl.getD 0, d.nm) = (c, m) := by simpa using e
      have hd := List.mem_of_getElem? ed
      obtain ⟨c', hc'⟩ := ownB_meth hO hd
      rw [hc'] at e
      cases e
      have hf := F.df.of d (List.mem_of_mem_drop hd)
      unfold EntFact at hf
      rw [hc'] at hf
      obtain ⟨C, f, w1, w2, w3, _⟩ := hf p k2
      exact ⟨p.1, p.2, C, f, k2, k1, PySem.W.mg_of KX hg w1, k3, w2, by show (if T.fnm.length + j < T.fnm.length then none else T.mts[T.fnm.length + j - T.fnm.length]?) = _; rw [if_neg (by omega), Nat.add_sub_cancel_left]; exact e0, w3⟩
  hrd := fun h hh => by
    obtain ⟨d, a, N, h1, h2, h3, hcl⟩ := F.hrd.of h hh
    obtain ⟨h4, h5⟩ := hrdB_ok h3
    have hf := F.df.of d (List.mem_of_getElem? h1)
    unfold EntFact at hf
    rw [hcl] at hf
    obtain ⟨g, g1, g2, oc, od, kV, doc, pm, an, cdv, ct, osl, g3, g4⟩ := hf
    exact ⟨d.nm, a, d.st, g, N, fnm_at hT hO h1 hcl, h5, ⟨⟨oc, od, kV, doc, pm, an, cdv, ct, osl, g3, g4⟩, PySem.W.mg_of KX hg g1, g2⟩, h2, h4⟩
  lam := fun c P q ns e => by
    have e : lam = some (c, P, q, ns) := e
    rw [hlam, e]
    rfl
  lamN := fun ns e => by
    rw [hlam] at e
    cases lam with
    | none => cases e
    | some z =>
      obtain ⟨c, P, q, ns'⟩ := z
      cases e
      exact ⟨c, P, q, rfl⟩
  exm := fun c d b hm x y fs gs C D e1 e2 e3 e4 => by
    obtain ⟨C', D', h1, h2, h3⟩ := F.exm.of (c, d, b) hm (x, fs) (y, gs) e1 e2
    have h1 := PySem.W.mg_of KX hg h1
    have h2 := PySem.W.mg_of KX hg h2
    have e3 : mg x = some (.ref C) := e3
    have e4 : mg y = some (.ref D) := e4
    rw [h1] at e3
    rw [h2] at e4
    cases e3
    cases e4
    exact h3
def chkEnt (T : Tab) (d : DEnt) : Bool := scB d.code.names d.ps (dScope d.st) && decide (d.ps.length = d.code.ar) && chkSs T d.code.names (dScope d.st) d.code.body (dBody d.st)
def codesOf (ents : List DEnt) : Nat → Option FnC := fun f => (ents[f]?).map (·.code)
theorem defsOk_of {P : Program} {T : Tab} {ents : List DEnt} {K : PySem.W.Frag} {h : Heap} {mg : Str → Option Value} (hT : T.fnm = (ents.take T.fnm.length).map (·.nm)) (hM : T.mts = (ents.drop T.fnm.length).map fun d => (d.cl.getD 0, d.nm)) (hO : ownB T ents = true) (F : TabFacts P T ents K) (hb : AllP (fun d : DEnt => DBindsQ d.nm d.q d.st d.ps) ents) (hc : AllP (fun d : DEnt => chkEnt T d = true) ents) (KX : K.In h) (hg : h.Ns mainGlobals mg) (sa : Addr) (sw : Bool) {lam : Option (Addr × Addr × Str × List (Str × NameKind))}
    (hL : ∀ c P q ns, lam = some (c, P, q, ns) → ∀ d ∈ ents, ns = (dScope d.st).names → d.cl = none ∧ ∀ a, mg d.nm = some (.ref a) → LamD K d.nm a c q) :
    DefsOk T (mkG P T K mg sa sw lam) (codesOf ents) where
  df := fun f a hfa => by
    have fin : ∀ d, ents[f]? = some d → FDef K d.nm d.q d.st a → (d.cl = none → mg d.nm = some (.ref a)) → PySem.W.keepIn K (.ref a) = true ∧
        ∀ c, codesOf ents f = some c → ∃ (m0 x : Str) (st : PySem.Stmt) (ps : List Str), FDef K m0 x st a ∧ FnScope c.names ps (dScope st) ∧ ps.length = c.ar ∧ DBindsQ m0 x st ps ∧ chkSs T c.names (dScope st) c.body (dBody st) = true ∧ ∀ c P' q ns, lam = some (c, P', q, ns) → ns = (dScope st).names → LamD K x a c q := fun d e F0 hmg => by
      have hm := List.mem_of_getElem? e
      refine ⟨F0.kp, fun c hc' => ?_⟩
      have hc' : d.code = c := by unfold codesOf at hc'; rw [e] at hc'; simpa using hc'
      subst hc'
      have q := hc.of d hm
      unfold chkEnt at q
      simp only [Bool.and_eq_true, decide_eq_true_eq] at q
      refine ⟨d.nm, d.q, d.st, d.ps, F0, scB_ok q.1.1, q.1.2, hb.of d hm, q.2, fun c P q ns e z => ?_⟩
      obtain ⟨z1, z2⟩ := hL c P q ns e d hm z
      have z3 := z2 a (hmg z1)
      have : d.q = d.nm := by unfold DEnt.q; rw [z1]
      rw [this]
      exact z3
    rcases hfa with ⟨x, e1, e2⟩ | ⟨c, m, nm, fn, C, e1, e2, e3, e4⟩
    · have e1 : T.fnm[f]? = some x := e1
      have hlt : f < T.fnm.length := (List.getElem?_eq_some_iff.mp e1).1
      rw [hT, List.getElem?_map, List.getElem?_take_of_lt hlt] at e1
      cases e : ents[f]? with
      | none => rw [e] at e1; cases e1
      | some d =>
        rw [e] at e1
        have e1 : d.nm = x := by simpa using e1
        subst e1
        have hm : d ∈ ents.take T.fnm.length := List.mem_of_getElem? (i := f) (by rw [List.getElem?_take_of_lt hlt]; exact e)
        have hcl := ownB_plain hO hm
        have hf := F.df.of d (List.mem_of_getElem? e)
        unfold EntFact at hf
        rw [hcl] at hf
        obtain ⟨a', h1, h2, oc, od, kV, doc, pm, an, cdv, ct, osl, h3, h4⟩ := hf
        have h1 := PySem.W.mg_of KX hg h1
        have e2 : mg d.nm = some (.ref a) := e2
        rw [h1] at e2
        cases e2
        have hq : d.q = d.nm := by unfold DEnt.q; rw [hcl]
        exact fin d e ⟨⟨oc, od, kV, doc, pm, an, cdv, ct, osl, by rw [hq]; exact h3, by rw [hq]; exact h4⟩, h2⟩ fun _ => h1
    · have e1 : (if f < T.fnm.length then none else T.mts[f - T.fnm.length]?) = some (c, m) := e1
      split at e1
      · cases e1
      · rename_i hlt
        have e0 := e1
        rw [hM, List.getElem?_map, List.getElem?_drop, Nat.add_sub_cancel' (Nat.le_of_not_lt hlt)] at e1
        cases e : ents[f]? with
        | none => rw [e] at e1; cases e1
        | some d =>
          rw [e] at e1
          have e1 : (d.cl.getD 0, d.nm) = (c, m) := by simpa using e1
          have hd : d ∈ ents.drop T.fnm.length := List.mem_of_getElem? (i := f - T.fnm.length) (by rw [List.getElem?_drop, Nat.add_sub_cancel' (Nat.le_of_not_lt hlt)]; exact e)
          obtain ⟨c', hc'⟩ := ownB_meth hO hd
          rw [hc'] at e1
          cases e1
          have e2 : T.cnm[c']? = some (nm, fn) := e2
          have hf := F.df.of d (List.mem_of_getElem? e)
          unfold EntFact at hf
          rw [hc'] at hf
          obtain ⟨C', f', w1, w2, w3, oc, od, kV, doc, pm, an, cdv, ct, osl, h3, h4⟩ := hf _ e2
          have w1 := PySem.W.mg_of KX hg w1
          have e3 : mg nm = some (.ref C) := e3
          rw [w1] at e3
          cases e3
          have e4 : PySem.W.findIn K (.ref C) d.nm = some (some (.ref a)) := e4
          rw [w2.at_] at e4
          cases e4
          have hq : d.q = d.qn := by unfold DEnt.q; rw [hc']
          exact fin d e ⟨⟨oc, od, kV, doc, pm, an, cdv, ct, osl, by rw [hq]; exact h3, by rw [hq]; exact h4⟩, w2.kp⟩ fun z => by rw [hc'] at z; cases z
/-- a law without lambdas -/
theorem tab_plain {P : Program} {T : Tab} {ents : List DEnt} {K : PySem.W.Frag} {h : Heap} {mg : Str → Option Value} (hT : T.fnm = (ents.take T.fnm.length).map (·.nm)) (hM : T.mts = (ents.drop T.fnm.length).map fun d => (d.cl.getD 0, d.nm)) (hO : ownB T ents = true) (hl : T.lns = none) (F : TabFacts P T ents K) (hb : AllP (fun d : DEnt => DBindsQ d.nm d.q d.st d.ps) ents) (hc : AllP (fun d : DEnt => chkEnt T d = true) ents) (KX : K.In h) (hg : h.Ns mainGlobals mg) (sa : Addr) (sw : Bool) :
    TabOk T (mkG P T K mg sa sw none) ∧ DefsOk T (mkG P T K mg sa sw none) (codesOf ents) :=
  ⟨tabOk_of hT hM hO F KX hg sa sw hl, defsOk_of hT hM hO F hb hc KX hg sa sw fun _ _ _ _ e => nomatch e⟩
/-- the law's code object and its table -/
def LamFact (K : PySem.W.Frag) (x : Str) : Prop := ∃ (fa c P : Addr) (oc : Value) (od : Option Addr) (fd : FuncData) (osl : Array (Option Value)) (e : Value) (dd : Option Addr) (vs : Array Value) (sl : Array (Option Value)), PySem.W.nsIn K mainGlobals x = some (some (.ref fa)) ∧ K.lookup fa = some ⟨oc, od, .func fd, osl⟩ ∧ fd.code = .ref c ∧
  K.lookup c = some ⟨e, dd, .fields vs, sl⟩ ∧ vs[11]? = some (.ref P) ∧ K.lookup P = none ∧ PySem.W.codeHdIn K c P = true
theorem lamfact {K : PySem.W.Frag} {x : Str} {fa c P : Addr} {oc : Value} {od : Option Addr} {fd : FuncData} {osl : Array (Option Value)} {e : Value} {dd : Option Addr} {vs : Array Value} {sl : Array (Option Value)} (h1 : PySem.W.nsIn K mainGlobals x = some (some (.ref fa))) (h2 : K.lookup fa = some ⟨oc, od, .func fd, osl⟩) (h3 : fd.code = .ref c)
    (h4 : K.lookup c = some ⟨e, dd, .fields vs, sl⟩) (h5 : vs[11]? = some (.ref P)) (h6 : K.lookup P = none) (h7 : PySem.W.codeHdIn K c P = true) : LamFact K x := ⟨fa, c, P, oc, od, fd, osl, e, dd, vs, sl, h1, h2, h3, h4, h5, h6, h7⟩
/-- the law's lambdas: whose words are the law's is the law -/
def lnsB (T : Tab) (ents : List DEnt) (x : Str) : Bool := ents.all fun d => !decide (T.lns = some (dScope d.st).names) || (decide (d.nm = x) && d.cl.isNone)
theorem tab_lam {P : Program} {T : Tab} {ents : List DEnt} {K : PySem.W.Frag} {h : Heap} {mg : Str → Option Value} {x : Str} {lns : List (Str × NameKind)} (hT : T.fnm = (ents.take T.fnm.length).map (·.nm)) (hM : T.mts = (ents.drop T.fnm.length).map fun d => (d.cl.getD 0, d.nm)) (hO : ownB T ents = true) (hl : T.lns = some lns) (hx : lnsB T ents x = true) (F : TabFacts P T ents K) (L : LamFact K x) (hb : AllP (fun d : DEnt => DBindsQ d.nm d.q d.st d.ps) ents) (hc : AllP (fun d : DEnt => chkEnt T d = true) ents) (KX : K.In h) (hg : h.Ns mainGlobals mg) :
    ∃ (fa c P' : Addr) (o : Obj) (fd : FuncData) (e : Value) (dd : Option Addr) (vs : Array Value) (sl : Array (Option Value)), mg x = some (.ref fa) ∧ K.lookup fa = some o ∧ o.data = .func fd ∧ fd.code = .ref c ∧ K.lookup c = some ⟨e, dd, .fields vs, sl⟩ ∧ vs[11]? = some (.ref P') ∧ K.lookup P' = none ∧ PySem.W.codeHdIn K c P' = true ∧
      ∀ (sa : Addr) (sw : Bool), TabOk T (mkG P T K mg sa sw (some (c, P', x ++ ".<locals>." ++ "<lambda>", lns))) ∧ DefsOk T (mkG P T K mg sa sw (some (c, P', x ++ ".<locals>." ++ "<lambda>", lns))) (codesOf ents) := by
  obtain ⟨fa, c, P', oc, od, fd, osl, e, dd, vs, sl, h1, h2, h3, h4, h5, h6, h7⟩ := L
  have hm := PySem.W.mg_of KX hg h1
  refine ⟨fa, c, P', _, fd, e, dd, vs, sl, hm, h2, rfl, h3, h4, h5, h6, h7, fun sa sw => ⟨tabOk_of hT hM hO F KX hg sa sw hl, defsOk_of hT hM hO F hb hc KX hg sa sw fun c1 P1 q1 ns1 e1 d hd hn => ?_⟩⟩
  cases e1
  have q := List.all_eq_true.mp hx d hd
  rw [Bool.or_eq_true] at q
  rcases q with q | q
  · rw [Bool.not_eq_true', decide_eq_false_iff_not, hl] at q
    exact absurd (by rw [hn]) q
  · rw [Bool.and_eq_true] at q
    have q1 := of_decide_eq_true q.1
    refine ⟨Option.isNone_iff_eq_none.mp q.2, fun a ha => ?_⟩
    rw [q1, hm] at ha
    cases ha
    exact ⟨⟨oc, od, fd, osl, h2, h3⟩, by rw [q1]⟩
end DI
set_option maxHeartbeats 4000000
/-! # DI: how to reckon with the evaluator -/
namespace DI
open PySem

section
variable {α β : Type} {a : α} {M : Store} {x : Exc} {k : α → Store → Res β} {kk : α → Store → SRes} {sp : Sl}
@[simp] theorem bind_ok : (Res.ok a M).bind k = k a M := rfl
@[simp] theorem bind_exc : (Res.exc x M : Res α).bind k = .exc x M := rfl
@[simp] theorem bind_bad : (Res.bad : Res α).bind k = .bad := rfl
@[simp] theorem ofR_ok : SRes.ofR (.ok a M) sp kk = kk a M := rfl
@[simp] theorem ofR_exc : SRes.ofR (.exc x M : Res α) sp kk = .exc x sp M := rfl
@[simp] theorem ofR_bad : SRes.ofR (.bad : Res α) sp kk = .bad := rfl
@[simp] theorem ofO_some : Res.ofO (some a) M = .ok a M := rfl
@[simp] theorem ofO_none : (Res.ofO (none : Option α) M) = .bad := rfl
@[simp] theorem seq_nx {k : Ex} : (SRes.nx sp M).seq k = k sp M := rfl
@[simp] theorem seq_ret {k : Ex} {p : PV} : (SRes.ret p M).seq k = .ret p M := rfl
@[simp] theorem seq_brk {k : Ex} : (SRes.brk sp M).seq k = .brk sp M := rfl
@[simp] theorem seq_cnt {k : Ex} : (SRes.cnt sp M).seq k = .cnt sp M := rfl
@[simp] theorem seq_exc {k : Ex} : (SRes.exc x sp M).seq k = .exc x sp M := rfl
@[simp] theorem seq_bad {k : Ex} : SRes.bad.seq k = .bad := rfl
@[simp] theorem evTr_bl {b : Bool} : evTr (.ok (.bl b) M) = .ok b M := rfl
@[simp] theorem evTr_exc : evTr (.exc x M) = .exc x M := rfl
@[simp] theorem evTr_bad : evTr .bad = .bad := rfl
end
section
variable {k : Store → Res PV} {M : Store}
@[simp] theorem andK_t : andK k (.bl true) M = k M := rfl
@[simp] theorem andK_f : andK k (.bl false) M = .ok (.bl false) M := rfl
@[simp] theorem orK_t : orK k (.bl true) M = .ok (.bl true) M := rfl
@[simp] theorem orK_f : orK k (.bl false) M = k M := rfl
theorem andK_bl {b c : Bool} {M' : Store} (h : b = true → k M = .ok (.bl c) M) : andK k (.bl b) M = .ok (.bl (b && c)) M := by
  cases b with
  | true => rw [andK_t, h rfl]; rfl
  | false => rfl
theorem orK_bl {b c : Bool} {M' : Store} (h : b = false → k M = .ok (.bl c) M) : orK k (.bl b) M = .ok (.bl (b || c)) M := by
  cases b with
  | true => rfl
  | false => rw [orK_f, h rfl]; rfl
end
/-! ### what a def lets go -/
theorem gcM_le {n : Nat} {M : Store} {ps : List PV} (h : M.length ≤ n) : gcM n M ps = M := if_pos h
@[simp] theorem gcM_self {M : Store} {ps : List PV} : gcM M.length M ps = M := gcM_le (Nat.le_refl _)
@[simp] theorem gcM_set {M : Store} {ps : List PV} {i : Nat} {o : Option SObj} : gcM M.length (M.set i o) ps = M.set i o := gcM_le (by simp)
/-- every object names only what stands -/
def okS (M : Store) : Prop := M.all (okObj M.length) = true
theorem gcM_app {M L : Store} {ps : List PV} (hM : okS M) (h : okRefs M.length ps = true) : gcM M.length (M ++ L) ps = M := by
  unfold gcM
  by_cases hl : (M ++ L).length ≤ M.length
  · have : L = [] := by
      have : L.length = 0 := by simp at hl; omega
      exact List.eq_nil_of_length_eq_zero this
    rw [if_pos hl, this, List.append_nil]
  · rw [if_neg hl, List.take_left', if_pos (by rw [h, hM]; rfl)]
    rfl
theorem okS_nil : okS [] := rfl
/-! ### the store -/
theorem lstAt_of {M : Store} {n : Nat} {xs : List PV} (h : M[n]? = some (some (.lst xs))) : lstAt M n = some xs := by
  unfold lstAt; rw [h]
theorem lstAt_set {M : Store} {n : Nat} {xs ys : List PV} (h : lstAt M n = some xs) : lstAt (M.set n (some (.lst ys))) n = some ys := by
  have hl : n < M.length := by
    unfold lstAt at h
    split at h
    · rename_i hh
      exact (List.getElem?_eq_some_iff.mp hh).1
    · cases h
  exact lstAt_of (by rw [List.getElem?_set_self hl])
theorem lstAt_set_ne {M : Store} {n m : Nat} {o : Option SObj} (h : n ≠ m) : lstAt (M.set n o) m = lstAt M m := by
  unfold lstAt
  rw [List.getElem?_set_ne h]
theorem lstAt_app {M L : Store} {n : Nat} {xs : List PV} (h : lstAt M n = some xs) : lstAt (M ++ L) n = some xs := by
  unfold lstAt at h
  split at h
  · rename_i hh
    cases h
    exact lstAt_of (by rw [List.getElem?_append_left (List.getElem?_eq_some_iff.mp hh).1]; exact hh)
  · cases h
@[simp] theorem lstAt_last {M : Store} {xs : List PV} : lstAt (M ++ [some (.lst xs)]) M.length = some xs := lstAt_of (by simp)
@[simp] theorem set_last {M : Store} {o o' : Option SObj} : (M ++ [o]).set M.length o' = M ++ [o'] := by simp
/-! ### comprehensions -/
theorem compR_map {step : PV → Store → Res (Option PV)} {M : Store} (f : PV → PV) : ∀ {items : List PV}, (∀ x ∈ items, step x M = .ok (some (f x)) M) → compR [] step items M = .ok (items.map f) M
  | [], _ => by unfold compR; rw [gdIf_nil]; rfl
  | x :: xs, h => by
    unfold compR
    rw [gdIf_nil, h x List.mem_cons_self]
    simp only
    rw [compR_map f fun y hy => h y (List.mem_cons_of_mem _ hy)]
    rfl
theorem compR_mapA {α : Type} {step : PV → Store → Res (Option PV)} {M : Store} (e : α → PV) (f : α → PV) : ∀ {items : List α}, (∀ x ∈ items, step (e x) M = .ok (some (f x)) M) → compR [] step (items.map e) M = .ok (items.map f) M
  | [], _ => by rw [List.map_nil]; unfold compR; rw [gdIf_nil]; rfl
  | x :: xs, h => by
    rw [List.map_cons]
    unfold compR
    rw [gdIf_nil, h x List.mem_cons_self]
    simp only
    rw [compR_mapA e f fun y hy => h y (List.mem_cons_of_mem _ hy)]
    rfl
theorem compR_filA {α : Type} {step : PV → Store → Res (Option PV)} {M : Store} (e : α → PV) (p : α → Bool) (f : α → PV) : ∀ {items : List α}, (∀ x ∈ items, step (e x) M = .ok (if p x = true then some (f x) else none) M) → compR [] step (items.map e) M = .ok ((items.filter p).map f) M
  | [], _ => by rw [List.map_nil]; unfold compR; rw [gdIf_nil]; rfl
  | x :: xs, h => by
    rw [List.map_cons]
    unfold compR
    rw [gdIf_nil, h x List.mem_cons_self]
    simp only
    rw [compR_filA e p f fun y hy => h y (List.mem_cons_of_mem _ hy)]
    cases hp : p x <;> simp [List.filter_cons, hp]
/-- turns that change the store: P what is known of it, R what is known of each yield -/
theorem compR_st {α : Type} {step : PV → Store → Res (Option PV)} (e : α → PV) (P : Store → Prop) (R : α → PV → Prop) : ∀ {items : List α} {M : Store}, P M → (∀ x ∈ items, ∀ M, P M → ∃ y M', step (e x) M = .ok (some y) M' ∧ P M' ∧ R x y) →
    ∃ ys M', compR [] step (items.map e) M = .ok ys M' ∧ P M' ∧ ys.length = items.length ∧ ∀ (i : Nat) (x : α) (y : PV), items[i]? = some x → ys[i]? = some y → R x y
  | [], M, hP, _ => ⟨[], M, by rw [List.map_nil]; unfold compR; rw [gdIf_nil], hP, rfl, fun i x y h => by simp at h⟩
  | x :: xs, M, hP, h => by
    obtain ⟨y, M1, e1, p1, r1⟩ := h x List.mem_cons_self M hP
    obtain ⟨ys, M2, e2, p2, l2, r2⟩ := compR_st e P R p1 fun z hz => h z (List.mem_cons_of_mem _ hz)
    refine ⟨y :: ys, M2, ?_, p2, by simp [l2], fun i z w h1 h2 => ?_⟩
    · rw [List.map_cons]
      unfold compR
      rw [gdIf_nil, e1]
      simp only
      rw [e2]
      rfl
    · cases i with
      | zero => simp at h1 h2; subst h1 h2; exact r1
      | succ i => exact r2 i z w (by simpa using h1) (by simpa using h2)
/-! ### isinstance -/
@[simp] theorem kit_NoneType_int : L2.kitB "NoneType" "int" = some false := by decide +kernel
@[simp] theorem kit_NoneType_bool : L2.kitB "NoneType" "bool" = some false := by decide +kernel
@[simp] theorem kit_NoneType_str : L2.kitB "NoneType" "str" = some false := by decide +kernel
@[simp] theorem kit_NoneType_tuple : L2.kitB "NoneType" "tuple" = some false := by decide +kernel
@[simp] theorem kit_NoneType_list : L2.kitB "NoneType" "list" = some false := by decide +kernel
@[simp] theorem kit_bool_int : L2.kitB "bool" "int" = some true := by decide +kernel
@[simp] theorem kit_bool_bool : L2.kitB "bool" "bool" = some true := by decide +kernel
@[simp] theorem kit_bool_str : L2.kitB "bool" "str" = some false := by decide +kernel
@[simp] theorem kit_bool_tuple : L2.kitB "bool" "tuple" = some false := by decide +kernel
@[simp] theorem kit_bool_list : L2.kitB "bool" "list" = some false := by decide +kernel
@[simp] theorem kit_int_int : L2.kitB "int" "int" = some true := by decide +kernel
@[simp] theorem kit_int_bool : L2.kitB "int" "bool" = some false := by decide +kernel
@[simp] theorem kit_int_str : L2.kitB "int" "str" = some false := by decide +kernel
@[simp] theorem kit_int_tuple : L2.kitB "int" "tuple" = some false := by decide +kernel
@[simp] theorem kit_int_list : L2.kitB "int" "list" = some false := by decide +kernel
@[simp] theorem kit_str_int : L2.kitB "str" "int" = some false := by decide +kernel
@[simp] theorem kit_str_bool : L2.kitB "str" "bool" = some false := by decide +kernel
@[simp] theorem kit_str_str : L2.kitB "str" "str" = some true := by decide +kernel
@[simp] theorem kit_str_tuple : L2.kitB "str" "tuple" = some false := by decide +kernel
@[simp] theorem kit_str_list : L2.kitB "str" "list" = some false := by decide +kernel
@[simp] theorem kit_tuple_int : L2.kitB "tuple" "int" = some false := by decide +kernel
@[simp] theorem kit_tuple_bool : L2.kitB "tuple" "bool" = some false := by decide +kernel
@[simp] theorem kit_tuple_str : L2.kitB "tuple" "str" = some false := by decide +kernel
@[simp] theorem kit_tuple_tuple : L2.kitB "tuple" "tuple" = some true := by decide +kernel
@[simp] theorem kit_tuple_list : L2.kitB "tuple" "list" = some false := by decide +kernel
@[simp] theorem kit_list_int : L2.kitB "list" "int" = some false := by decide +kernel
@[simp] theorem kit_list_bool : L2.kitB "list" "bool" = some false := by decide +kernel
@[simp] theorem kit_list_str : L2.kitB "list" "str" = some false := by decide +kernel
@[simp] theorem kit_list_tuple : L2.kitB "list" "tuple" = some false := by decide +kernel
@[simp] theorem kit_list_list : L2.kitB "list" "list" = some true := by decide +kernel
/-! ### loops -/
/-- a loop that runs to its end: I the invariant, by the items done -/
theorem forR_inv {α : Type} {b : PV → Sl → Option Sl} {body : Ex} (e : α → PV) (I : Nat → Sl → Store → Prop) : ∀ {items : List α} {i : Nat} {sp : Sl} {M : Store}, I i sp M →
    (∀ (j : Nat) (x : α) (sp : Sl) (M : Store), items[j]? = some x → I (i + j) sp M → ∃ sp1, b (e x) sp = some sp1 ∧ ∃ sp2 M2, (body sp1 M = .nx sp2 M2 ∨ body sp1 M = .cnt sp2 M2) ∧ I (i + j + 1) sp2 M2) →
    ∃ sp' M', forR [] b body (items.map e) sp M = .nx sp' M' ∧ I (i + items.length) sp' M'
  | [], i, sp, M, h, _ => ⟨sp, M, by rw [List.map_nil]; unfold forR; rw [gdIfS_nil], h⟩
  | x :: xs, i, sp, M, h, hs => by
    obtain ⟨sp1, e1, sp2, M2, e2, i2⟩ := hs 0 x sp M rfl h
    obtain ⟨sp', M', e3, i3⟩ := forR_inv (items := xs) (i := i + 1) e I i2 fun j y sp M hy hi => by
      have := hs (j + 1) y sp M (by simpa using hy) (by rw [← Nat.add_assoc, Nat.add_right_comm]; exact hi)
      rw [show i + (j + 1) + 1 = i + 1 + j + 1 by omega] at this
      exact this
    refine ⟨sp', M', ?_, by rw [List.length_cons, show i + (xs.length + 1) = i + 1 + xs.length by omega]; exact i3⟩
    rw [List.map_cons]
    unfold forR
    rw [gdIfS_nil, e1]
    simp only
    rcases e2 with e2 | e2 <;> rw [e2] <;> exact e3
/-- a loop that may leave early with a value -/
theorem forR_ret {α : Type} {b : PV → Sl → Option Sl} {body : Ex} (e : α → PV) (I : Nat → Sl → Store → Prop) (Rt : Nat → PV → Store → Prop) : ∀ {items : List α} {i : Nat} {sp : Sl} {M : Store}, I i sp M →
    (∀ (j : Nat) (x : α) (sp : Sl) (M : Store), items[j]? = some x → I (i + j) sp M → ∃ sp1, b (e x) sp = some sp1 ∧ ((∃ sp2 M2, (body sp1 M = .nx sp2 M2 ∨ body sp1 M = .cnt sp2 M2) ∧ I (i + j + 1) sp2 M2) ∨ ∃ p M2, body sp1 M = .ret p M2 ∧ Rt (i + j) p M2)) →
    (∃ sp' M', forR [] b body (items.map e) sp M = .nx sp' M' ∧ I (i + items.length) sp' M') ∨ ∃ j p M', forR [] b body (items.map e) sp M = .ret p M' ∧ i ≤ j ∧ j < i + items.length ∧ Rt j p M'
  | [], i, sp, M, h, _ => .inl ⟨sp, M, by rw [List.map_nil]; unfold forR; rw [gdIfS_nil], h⟩
  | x :: xs, i, sp, M, h, hs => by
    obtain ⟨sp1, e1, hr⟩ := hs 0 x sp M rfl h
    have unf : forR [] b body ((x :: xs).map e) sp M = (match body sp1 M with
      | .nx sp2 M2 => forR [] b body (xs.map e) sp2 M2
      | .cnt sp2 M2 => forR [] b body (xs.map e) sp2 M2
      | .brk sp2 M2 => .nx sp2 M2
      | r => r) := by
      rw [List.map_cons]
      conv => lhs; unfold forR
      rw [gdIfS_nil, e1] <;> first
        | rfl
        | (cases body sp1 M <;> rfl)
        | (dsimp only; cases body sp1 M <;> rfl)
    rcases hr with ⟨sp2, M2, e2, i2⟩ | ⟨p, M2, e2, r2⟩
    · have hh := forR_ret (items := xs) (i := i + 1) e I Rt i2 fun j y sp M hy hi => by
        have := hs (j + 1) y sp M (by simpa using hy) (by rw [← Nat.add_assoc, Nat.add_right_comm]; exact hi)
        rw [show i + (j + 1) + 1 = i + 1 + j + 1 by omega, show i + (j + 1) = i + 1 + j by omega] at this
        exact this
      have unf2 : forR [] b body ((x :: xs).map e) sp M = forR [] b body (xs.map e) sp2 M2 := by
        rw [unf]
        rcases e2 with e2 | e2 <;> rw [e2]
      rw [unf2]
      rcases hh with ⟨sp', M', e3, i3⟩ | ⟨j, p, M', e3, h1, h2, h3⟩
      · exact .inl ⟨sp', M', e3, by rw [List.length_cons, show i + (xs.length + 1) = i + 1 + xs.length by omega]; exact i3⟩
      · exact .inr ⟨j, p, M', e3, by omega, by simp; omega, h3⟩
    · refine .inr ⟨i, p, M2, ?_, Nat.le_refl _, by simp, r2⟩
      rw [unf, e2]
end DI
set_option maxHeartbeats 4000000
/-! # DI: the evaluator's equations, for simp (never by unfolding: the kernel would run long) -/
namespace DI
open PySem
section
variable {T : Tab} {Γ : Fns} {sp : Sl} {M : Store} {a b c e : CE} {es r : CEs} {i j : Nat}
theorem slot_some {p : PV} (h : sp[i]? = some (some p)) : ev T Γ (.var i) sp M = .ok p M := by simp only [ev, h]
def varK : Option (Option PV) → Store → Res PV
  | some (some p), M => .ok p M
  | _, _ => .bad
@[simp] theorem varK_some {p : PV} : varK (some (some p)) M = .ok p M := by simp only [varK]
@[simp] theorem ev_var : ev T Γ (.var i) sp M = varK sp[i]? M := by
  simp only [ev]
  cases sp[i]? with
  | none => rfl
  | some o => cases o <;> rfl
@[simp] theorem ev_non : ev T Γ .non sp M = .ok .non M := by simp only [ev]
@[simp] theorem ev_bl {x : Bool} : ev T Γ (.bl x) sp M = .ok (.bl x) M := by simp only [ev]
@[simp] theorem ev_int {x : Int} : ev T Γ (.int x) sp M = .ok (.int x) M := by simp only [ev]
@[simp] theorem ev_str {x : Str} : ev T Γ (.str x) sp M = .ok (.str x) M := by simp only [ev]
def globK : Option (Str × PV) → Store → Res PV
  | some q, M => .ok q.2 M
  | none, _ => .bad
@[simp] theorem globK_some {q : Str × PV} : globK (some q) M = .ok q.2 M := by simp only [globK]
@[simp] theorem ev_glob : ev T Γ (.glob i) sp M = globK T.cst[i]? M := by
  simp only [ev]
  cases T.cst[i]? <;> rfl
@[simp] theorem ev_fn : ev T Γ (.fn i) sp M = .ok (.fn i) M := by simp only [ev]
@[simp] theorem ev_bty {x : String} : ev T Γ (.bty x) sp M = .ok (.ty x) M := by simp only [ev]
@[simp] theorem ev_neg : ev T Γ (.neg a) sp M = (ev T Γ a sp M).bind fun p M1 => .ofO (negP M1 p) M1 := by simp only [ev]
def notK : PV → Store → Res PV
  | .bl b, M => .ok (.bl (!b)) M
  | _, _ => .bad
@[simp] theorem notK_bl {x : Bool} : notK (.bl x) M = .ok (.bl (!x)) M := by simp only [notK]
@[simp] theorem ev_not : ev T Γ (.notE a) sp M = (ev T Γ a sp M).bind notK := by
  simp only [ev]
  cases ev T Γ a sp M with
  | ok p M1 => cases p <;> rfl
  | _ => rfl
@[simp] theorem ev_bin {op : Operator} : ev T Γ (.bin op a b) sp M = (ev T Γ a sp M).bind fun p M1 => (ev T Γ b sp M1).bind fun q M2 => .ofO (binP op M2 p q) M2 := by simp only [ev]
@[simp] theorem ev_cmp {op : CmpOp} : ev T Γ (.cmp op a b) sp M = (ev T Γ a sp M).bind fun p M1 => (ev T Γ b sp M1).bind fun q M2 => .ofO (cmpP op M2 p q) M2 := by simp only [ev]
def cmp2K (op2 : CmpOp) (q : PV) (cc : Store → Res PV) : Option PV → Store → Res PV
  | some (.bl true), M => (cc M).bind fun r M3 => .ofO (cmpP op2 M3 q r) M3
  | some (.bl false), M => .ok (.bl false) M
  | _, _ => .bad
@[simp] theorem cmp2K_t {op2 : CmpOp} {q : PV} {cc : Store → Res PV} : cmp2K op2 q cc (some (.bl true)) M = (cc M).bind fun r M3 => .ofO (cmpP op2 M3 q r) M3 := by simp only [cmp2K]
@[simp] theorem cmp2K_f {op2 : CmpOp} {q : PV} {cc : Store → Res PV} : cmp2K op2 q cc (some (.bl false)) M = .ok (.bl false) M := by simp only [cmp2K]
@[simp] theorem ev_cmp2 {op op2 : CmpOp} : ev T Γ (.cmp2 op op2 a b c) sp M = (ev T Γ a sp M).bind fun p M1 => (ev T Γ b sp M1).bind fun q M2 => cmp2K op2 q (ev T Γ c sp) (cmpP op M2 p q) M2 := by
  simp only [ev]
  cases ev T Γ a sp M with
  | ok p M1 =>
    simp only [bind_ok]
    cases ev T Γ b sp M1 with
    | ok q M2 =>
      simp only [bind_ok]
      cases cmpP op M2 p q with
      | none => rfl
      | some z =>
        cases z with
        | bl y => cases y <;> rfl
        | _ => rfl
    | _ => rfl
  | _ => rfl
@[simp] theorem ev_and : ev T Γ (.andE es) sp M = evAnd T Γ es sp M := by simp only [ev]
@[simp] theorem ev_or : ev T Γ (.orE es) sp M = evOr T Γ es sp M := by simp only [ev]
@[simp] theorem evAnd_one : evAnd T Γ (.cons e .nil) sp M = ev T Γ e sp M := by simp only [evAnd]
@[simp] theorem evAnd_cons {e2 : CE} : evAnd T Γ (.cons e (.cons e2 r)) sp M = (ev T Γ e sp M).bind (andK (evAnd T Γ (.cons e2 r) sp)) := by simp only [evAnd]
@[simp] theorem evOr_one : evOr T Γ (.cons e .nil) sp M = ev T Γ e sp M := by simp only [evOr]
@[simp] theorem evOr_cons {e2 : CE} : evOr T Γ (.cons e (.cons e2 r)) sp M = (ev T Γ e sp M).bind (orK (evOr T Γ (.cons e2 r) sp)) := by simp only [evOr]
def ifK (x y : Store → Res PV) : PV → Store → Res PV
  | .bl true, M => x M
  | .bl false, M => y M
  | _, _ => .bad
@[simp] theorem ifK_t {x y : Store → Res PV} : ifK x y (.bl true) M = x M := by simp only [ifK]
@[simp] theorem ifK_f {x y : Store → Res PV} : ifK x y (.bl false) M = y M := by simp only [ifK]
@[simp] theorem ifK_bl {x y : Store → Res PV} {z : Bool} : ifK x y (.bl z) M = if z = true then x M else y M := by cases z <;> simp
@[simp] theorem ev_ifE : ev T Γ (.ife c a b) sp M = (ev T Γ c sp M).bind (ifK (ev T Γ a sp) (ev T Γ b sp)) := by
  simp only [ev]
  cases ev T Γ c sp M with
  | ok p M1 =>
    cases p with
    | bl z => cases z <;> rfl
    | _ => rfl
  | _ => rfl
@[simp] theorem ev_tup : ev T Γ (.tup es) sp M = (evs T Γ es sp M).bind fun ps M1 => if ps.length ≤ sizeLine then .ok (.tup ps) M1 else .bad := by simp only [ev]
@[simp] theorem ev_lst : ev T Γ (.lst es) sp M = (evs T Γ es sp M).bind fun ps M1 => if ps.length ≤ sizeLine then .ok (.lst ps) M1 else .bad := by simp only [ev]
@[simp] theorem ev_lstR : ev T Γ (.lstR es) sp M = (evs T Γ es sp M).bind fun ps M1 => if ps.length ≤ sizeLine then .ok (.ref M1.length) (M1 ++ [some (.lst ps)]) else .bad := by simp only [ev]
@[simp] theorem ev_idx : ev T Γ (.idx a b) sp M = (ev T Γ a sp M).bind fun p M1 => (ev T Γ b sp M1).bind fun q M2 => .ofO (idxP M2 p q) M2 := by simp only [ev]
@[simp] theorem ev_slc {lo hi : Option CE} : ev T Γ (.slc a lo hi) sp M = (ev T Γ a sp M).bind fun p M1 => (evO T Γ lo sp M1).bind fun l M2 => (evO T Γ hi sp M2).bind fun h M3 => .ofO (slcP M3 p l h) M3 := by simp only [ev]
def intK : PV → Store → Res (Option Int)
  | .int n, M => .ok (some n) M
  | _, _ => .bad
@[simp] theorem intK_int {n : Int} : intK (.int n) M = .ok (some n) M := by simp only [intK]
@[simp] theorem evO_none : evO T Γ none sp M = .ok none M := by simp only [evO]
@[simp] theorem evO_some : evO T Γ (some c) sp M = (ev T Γ c sp M).bind intK := by
  simp only [evO]
  cases ev T Γ c sp M with
  | ok p M1 => cases p <;> rfl
  | _ => rfl
@[simp] theorem evC_none : evC T Γ none sp M = .ok true M := by simp only [evC]
@[simp] theorem evC_some : evC T Γ (some c) sp M = evTr (ev T Γ c sp M) := by
  simp only [evC, evTr]
@[simp] theorem ev_call : ev T Γ (.call i es) sp M = (evs T Γ es sp M).bind fun ps M1 => Γ i ps M1 := by simp only [ev]
def callVK (g : Nat → Store → Res PV) : Option (Option PV) → Store → Res PV
  | some (some (.fn f)), M => g f M
  | _, _ => .bad
@[simp] theorem callVK_fn {g : Nat → Store → Res PV} {f : Nat} : callVK g (some (some (.fn f))) M = g f M := by simp only [callVK]
@[simp] theorem ev_callV' : ev T Γ (.callV i es) sp M = callVK (fun f M => (evs T Γ es sp M).bind fun ps M1 => Γ f ps M1) sp[i]? M := by
  simp only [ev]
  cases sp[i]? with
  | none => rfl
  | some o =>
    cases o with
    | none => rfl
    | some p => cases p <;> rfl
@[simp] theorem ev_callB {bi : BI} : ev T Γ (.callB bi es) sp M = (evs T Γ es sp M).bind fun ps M1 => .ofO (biP bi M1 ps) M1 := by simp only [ev]
@[simp] theorem ev_meth {m : BM} : ev T Γ (.meth m a es) sp M = (ev T Γ a sp M).bind fun p M1 => if tyM M1 p = true then (evs T Γ es sp M1).bind fun ps M2 => bmR m M2 p ps else .bad := by simp only [ev]
@[simp] theorem ev_sset : ev T Γ (.sset a) sp M = (ev T Γ a sp M).bind fun p M1 => .ofO (ssetP M1 p) M1 := by simp only [ev]
@[simp] theorem ev_listR : ev T Γ (.listR a) sp M = (ev T Γ a sp M).bind fun p M1 => listRK M1 p := by simp only [ev]
theorem ev_frz {n : Nat} {xs : List PV} (h1 : sp[i]? = some (some (.ref n))) (h2 : lstAt M n = some xs) : ev T Γ (.frz i) sp M = .ok (.lst xs) (M.set n none) := by simp only [ev, h1, h2]
@[simp] theorem ev_comp {own : List (Str × Nat)} {tg : CT} {it : CI} {cd : Option CE} {elt : CE} : ev T Γ (.comp own tg it cd elt) sp M = (evI T Γ it sp M).bind fun J M1 => (compR J.gd (stepC tg (own.map (·.2)) (evC T Γ cd) (ev T Γ elt) sp) J.items M1).bind fun ys M2 => .ok (.lst ys) M2 := by
  simp only [ev]
  rfl
@[simp] theorem evs_nil : evs T Γ .nil sp M = .ok [] M := by simp only [evs]
@[simp] theorem evs_cons : evs T Γ (.cons e r) sp M = (ev T Γ e sp M).bind fun p M1 => (evs T Γ r sp M1).bind fun ps M2 => .ok (p :: ps) M2 := by simp only [evs]
def starK (r : Store → Res (List PV)) : PV → Store → Res (List PV)
  | .tup xs, M => (r M).bind fun ps M2 => .ok (xs ++ ps) M2
  | .lst xs, M => (r M).bind fun ps M2 => .ok (xs ++ ps) M2
  | _, _ => .bad
@[simp] theorem starK_tup {r : Store → Res (List PV)} {xs : List PV} : starK r (.tup xs) M = (r M).bind fun ps M2 => .ok (xs ++ ps) M2 := by simp only [starK]
@[simp] theorem starK_lst {r : Store → Res (List PV)} {xs : List PV} : starK r (.lst xs) M = (r M).bind fun ps M2 => .ok (xs ++ ps) M2 := by simp only [starK]
@[simp] theorem evs_star : evs T Γ (.star e r) sp M = (ev T Γ e sp M).bind (starK (evs T Γ r sp)) := by
  simp only [evs]
  cases ev T Γ e sp M with
  | ok p M1 => cases p <;> rfl
  | _ => rfl
@[simp] theorem evI_seq : evI T Γ (.seq e) sp M = (ev T Γ e sp M).bind fun p M1 => .ofO (seqIt M1 p) M1 := by simp only [evI]
def rng1K : PV → Store → Res ItV
  | .int n, M => .ofO (rngIt 0 n) M
  | _, _ => .bad
@[simp] theorem rng1K_int {n : Int} : rng1K (.int n) M = .ofO (rngIt 0 n) M := by simp only [rng1K]
@[simp] theorem evI_rng1 : evI T Γ (.rng1 a) sp M = (ev T Γ a sp M).bind rng1K := by
  simp only [evI]
  cases ev T Γ a sp M with
  | ok p M1 => cases p <;> rfl
  | _ => rfl
def rng2K : PV → PV → Store → Res ItV
  | .int n, .int m, M => .ofO (rngIt n m) M
  | _, _, _ => .bad
@[simp] theorem rng2K_int {n m : Int} : rng2K (.int n) (.int m) M = .ofO (rngIt n m) M := by simp only [rng2K]
@[simp] theorem evI_rng2 : evI T Γ (.rng2 a b) sp M = (ev T Γ a sp M).bind fun p M1 => (ev T Γ b sp M1).bind fun q M2 => rng2K p q M2 := by
  simp only [evI]
  cases ev T Γ a sp M with
  | ok p M1 =>
    simp only [bind_ok]
    cases ev T Γ b sp M1 with
    | ok q M2 => cases p <;> cases q <;> rfl
    | _ => rfl
  | _ => rfl
def rng3K : PV → PV → PV → Store → Res ItV
  | .int n, .int m, .int k, M => .ofO (rngIt3 n m k) M
  | _, _, _, _ => .bad
@[simp] theorem rng3K_int {n m k : Int} : rng3K (.int n) (.int m) (.int k) M = .ofO (rngIt3 n m k) M := by simp only [rng3K]
@[simp] theorem evI_rng3 : evI T Γ (.rng3 a b c) sp M = (ev T Γ a sp M).bind fun p M1 => (ev T Γ b sp M1).bind fun q M2 => (ev T Γ c sp M2).bind fun r M3 => rng3K p q r M3 := by
  simp only [evI]
  cases ev T Γ a sp M with
  | ok p M1 =>
    simp only [bind_ok]
    cases ev T Γ b sp M1 with
    | ok q M2 =>
      simp only [bind_ok]
      cases ev T Γ c sp M2 with
      | ok r M3 => cases p <;> cases q <;> cases r <;> rfl
      | _ => rfl
    | _ => rfl
  | _ => rfl
def enK : Option ItV → Store → Res ItV
  | some J, M => .ok ⟨enumL J.items, J.gd⟩ M
  | none, _ => .bad
@[simp] theorem enK_some {J : ItV} : enK (some J) M = .ok ⟨enumL J.items, J.gd⟩ M := by simp only [enK]
@[simp] theorem evI_enum : evI T Γ (.enum e) sp M = (ev T Γ e sp M).bind fun p M1 => enK (seqIt M1 p) M1 := by
  simp only [evI]
  cases ev T Γ e sp M with
  | ok p M1 =>
    simp only [bind_ok]
    cases seqIt M1 p <;> rfl
  | _ => rfl
def ziK : Option ItV → Option ItV → Store → Res ItV
  | some J, some J', M => .ok ⟨zipL J.items J'.items, J.gd ++ J'.gd⟩ M
  | _, _, _ => .bad
@[simp] theorem ziK_some {J J' : ItV} : ziK (some J) (some J') M = .ok ⟨zipL J.items J'.items, J.gd ++ J'.gd⟩ M := by simp only [ziK]
@[simp] theorem evI_zip : evI T Γ (.zip a b) sp M = (ev T Γ a sp M).bind fun p M1 => (ev T Γ b sp M1).bind fun q M2 => ziK (seqIt M2 p) (seqIt M2 q) M2 := by
  simp only [evI]
  cases ev T Γ a sp M with
  | ok p M1 =>
    simp only [bind_ok]
    cases ev T Γ b sp M1 with
    | ok q M2 =>
      simp only [bind_ok]
      cases seqIt M2 p <;> cases seqIt M2 q <;> rfl
    | _ => rfl
  | _ => rfl
def ziK3 : Option ItV → Option ItV → Option ItV → Store → Res ItV
  | some J, some J', some J'', M => .ok ⟨zipL3 J.items J'.items J''.items, J.gd ++ (J'.gd ++ J''.gd)⟩ M
  | _, _, _, _ => .bad
@[simp] theorem ziK3_some {J J' J'' : ItV} : ziK3 (some J) (some J') (some J'') M = .ok ⟨zipL3 J.items J'.items J''.items, J.gd ++ (J'.gd ++ J''.gd)⟩ M := by simp only [ziK3]
@[simp] theorem evI_zip3 : evI T Γ (.zip3 a b c) sp M = (ev T Γ a sp M).bind fun p M1 => (ev T Γ b sp M1).bind fun q M2 => (ev T Γ c sp M2).bind fun r M3 => ziK3 (seqIt M3 p) (seqIt M3 q) (seqIt M3 r) M3 := by
  simp only [evI]
  cases ev T Γ a sp M with
  | ok p M1 =>
    simp only [bind_ok]
    cases ev T Γ b sp M1 with
    | ok q M2 =>
      simp only [bind_ok]
      cases ev T Γ c sp M2 with
      | ok r M3 =>
        simp only [bind_ok]
        cases seqIt M3 p <;> cases seqIt M3 q <;> cases seqIt M3 r <;> rfl
      | _ => rfl
    | _ => rfl
  | _ => rfl
@[simp] theorem ev_index : ev T Γ (.index a b) sp M = (ev T Γ a sp M).bind fun p M1 => if (itemsL M1 p).isSome = true then (ev T Γ b sp M1).bind fun q M2 => .ofO (indexP M2 p q) M2 else .bad := by simp only [ev]
@[simp] theorem ev_rev : ev T Γ (.rev a) sp M = (ev T Γ a sp M).bind fun p M1 => .ofO (revP M1 p) M1 := by simp only [ev]
@[simp] theorem ev_srt : ev T Γ (.srt a) sp M = (ev T Γ a sp M).bind fun p M1 => .ofO (srtP M1 p) M1 := by simp only [ev]
/-! ### statements -/
variable {s : CS} {ss sb sc : CSs} {t : CT}
@[simp] theorem exs_nil : exs T Γ .nil sp M = .nx sp M := by simp only [exs]
@[simp] theorem exs_cons : exs T Γ (.cons s ss) sp M = (ex T Γ s sp M).seq (exs T Γ ss) := by simp only [exs]
@[simp] theorem ex_asg : ex T Γ (.asg t e) sp M = .ofR (ev T Γ e sp M) sp (asgK t sp) := by simp only [ex]
@[simp] theorem ex_asgC {own : List (Str × Nat)} {tg : CT} {it : CI} {cd : Option CE} {elt : CE} : ex T Γ (.asgC i own tg it cd elt) sp M = .ofR (ev T Γ (.comp own tg it cd elt) sp M) sp (asgK (.name i) sp) := by simp only [ex]
@[simp] theorem ex_par {ts : List Nat} : ex T Γ (.par ts es) sp M = .ofR (evs T Γ es sp M) sp (parK ts sp) := by simp only [ex]
@[simp] theorem ex_asgI : ex T Γ (.asgI a b e) sp M = .ofR (ev T Γ e sp M) sp fun v M1 => .ofR (ev T Γ a sp M1) sp fun p M2 => .ofR (ev T Γ b sp M2) sp fun q M3 => setK sp v p q M3 := by simp only [ex]
def augV (g : PV → SRes) : Option (Option PV) → SRes
  | some (some p) => g p
  | _ => .bad
@[simp] theorem augV_some {g : PV → SRes} {p : PV} : augV g (some (some p)) = g p := by simp only [augV]
@[simp] theorem ex_aug {op : Operator} : ex T Γ (.aug i op e) sp M = augV (fun p => .ofR (ev T Γ e sp M) sp (augK op i sp p)) sp[i]? := by
  simp only [ex]
  cases sp[i]? with
  | none => rfl
  | some o => cases o <;> rfl
@[simp] theorem ex_augI {op : Operator} : ex T Γ (.augI a b op e) sp M = .ofR (ev T Γ a sp M) sp fun p M1 => .ofR (ev T Γ b sp M1) sp fun k M2 => if isRef p = true then augIK op sp (ev T Γ e) p k M2 else .bad := by simp only [ex]
@[simp] theorem ex_expr : ex T Γ (.expr e) sp M = .ofR (ev T Γ e sp M) sp fun _ M1 => .nx sp M1 := by simp only [ex]
@[simp] theorem ex_ret : ex T Γ (.ret e) sp M = .ofR (ev T Γ e sp M) sp fun p M1 => .ret p M1 := by simp only [ex]
@[simp] theorem ex_retN : ex T Γ .retN sp M = .ret .non M := by simp only [ex]
@[simp] theorem ex_ite : ex T Γ (.ite c sb sc) sp M = .ofR (evTr (ev T Γ c sp M)) sp fun t M1 => if t = true then exs T Γ sb sp M1 else exs T Γ sc sp M1 := by simp only [ex]
@[simp] theorem ex_for {it : CI} : ex T Γ (.forS t it sb) sp M = .ofR (evI T Γ it sp M) sp fun J M1 => forR J.gd (asg t) (exs T Γ sb) J.items sp M1 := by simp only [ex]
@[simp] theorem ex_while : ex T Γ (.whileS c sb) sp M = whileR (fun sp M => evTr (ev T Γ c sp M)) (exs T Γ sb) sp M := by simp only [ex]
@[simp] theorem ex_raise : ex T Γ (.raise i es) sp M = .ofR (evs T Γ es sp M) sp fun ps M1 => .exc ⟨i, ps, false⟩ sp M1 := by simp only [ex]
def tryK (exm : List (Nat × Nat × Bool)) (hs : List HC) : SRes → SRes
  | .exc x sp M => runH exm x sp M hs
  | r => r
@[simp] theorem tryK_exc {exm : List (Nat × Nat × Bool)} {hs : List HC} {x : Exc} : tryK exm hs (.exc x sp M) = runH exm x sp M hs := by simp only [tryK]
@[simp] theorem tryK_nx {exm : List (Nat × Nat × Bool)} {hs : List HC} : tryK exm hs (.nx sp M) = .nx sp M := by simp only [tryK]
@[simp] theorem tryK_ret {exm : List (Nat × Nat × Bool)} {hs : List HC} {p : PV} : tryK exm hs (.ret p M) = .ret p M := by simp only [tryK]
@[simp] theorem ex_try {hs : List HC} : ex T Γ (.tryS sb hs) sp M = tryK T.exm hs (exs T Γ sb sp M) := by
  simp only [ex]
  cases exs T Γ sb sp M <;> rfl
@[simp] theorem ex_pass : ex T Γ .pass sp M = .nx sp M := by simp only [ex]
@[simp] theorem ex_brk : ex T Γ .brk sp M = .brk sp M := by simp only [ex]
@[simp] theorem ex_cnt : ex T Γ .cnt sp M = .cnt sp M := by simp only [ex]
/-- what a def gives -/
def runK (n : Nat) : SRes → Res PV
  | .nx _ M' => .ok .non (gcM n M' [])
  | .ret p M' => .ok p (gcM n M' [p])
  | .exc x _ M' => .exc x (gcM n M' x.fs)
  | _ => .bad
@[simp] theorem runK_nx {n : Nat} : runK n (.nx sp M) = .ok .non (gcM n M []) := by simp only [runK]
@[simp] theorem runK_ret {n : Nat} {p : PV} : runK n (.ret p M) = .ok p (gcM n M [p]) := by simp only [runK]
@[simp] theorem runK_exc {n : Nat} {x : Exc} : runK n (.exc x sp M) = .exc x (gcM n M x.fs) := by simp only [runK]
theorem runF_eq {cd : FnC} {ps : List PV} (h : ps.length = cd.ar) : runF T Γ cd ps M = runK M.length (exs T Γ cd.body (ps.map some ++ List.replicate (cd.names.length - cd.ar) none) M) := by
  unfold runF
  rw [if_pos h]
  cases exs T Γ cd.body (ps.map some ++ List.replicate (cd.names.length - cd.ar) none) M <;> rfl
end
/-- a call runs the def's code; n: the slots that are not parameters -/
theorem Fn_run {T : Tab} {ents : List DEnt} {k f : Nat} {ar n : Nat} {nm : List Str} {body : CSs} {ps : List PV} {M : Store} (h : codesOf ents f = some ⟨ar, nm, body⟩) (h1 : ps.length = ar) (h2 : nm.length = ar + n) :
    Fn T (codesOf ents) (k + 1) f ps M = runK M.length (exs T (Fn T (codesOf ents) k) body (ps.map some ++ List.replicate n none) M) := by
  simp only [Fn, h]
  rw [runF_eq (cd := ⟨ar, nm, body⟩) h1]
  show runK M.length (exs T _ body (ps.map some ++ List.replicate (nm.length - ar) none) M) = _
  rw [show nm.length - ar = n by omega]
end DI
set_option maxHeartbeats 4000000
/-! # DI: operators and built-in functions at known values, for simp (so that nothing is unfolded) -/
namespace DI
open PySem
section
variable {M : Store} {i j : Int} {p q : PV} {xs ys : List PV} {b : Bool}
@[simp] theorem cE : cmpP .Eq M p q = eqP M p q := rfl
@[simp] theorem cN : cmpP .NotEq M p q = neP M p q := rfl
@[simp] theorem cLt : cmpP .Lt M (.int i) (.int j) = some (.bl (decide (i < j))) := rfl
@[simp] theorem cLe : cmpP .LtE M (.int i) (.int j) = some (.bl (decide (i ≤ j))) := rfl
@[simp] theorem cGt : cmpP .Gt M (.int i) (.int j) = some (.bl (decide (j < i))) := rfl
@[simp] theorem cGe : cmpP .GtE M (.int i) (.int j) = some (.bl (decide (j ≤ i))) := rfl
@[simp] theorem cIs : cmpP .Is M p q = isP M p q := rfl
@[simp] theorem cIsNot : cmpP .IsNot M p q = isNotP M p q := rfl
@[simp] theorem cIn : cmpP .In M p q = inP M p q := rfl
@[simp] theorem cNotIn : cmpP .NotIn M p q = notInP M p q := rfl
@[simp] theorem bAdd : binP .Add M (.int i) (.int j) = some (.int (i + j)) := rfl
@[simp] theorem bSub : binP .Sub M (.int i) (.int j) = some (.int (i - j)) := rfl
theorem bMul (h : mulOk i j = true) : binP .Mult M (.int i) (.int j) = some (.int (i * j)) := by
  show (if mulOk i j = true then some (PV.int (i * j)) else none) = _
  rw [if_pos h]
theorem bDiv (h : divOk j = true) : binP .FloorDiv M (.int i) (.int j) = some (.int (i.fdiv j)) := by
  show (if divOk j = true then some (PV.int (i.fdiv j)) else none) = _
  rw [if_pos h]
theorem bMod (h : j ≠ 0) : binP .Mod M (.int i) (.int j) = some (.int (i.fmod j)) := by
  show (if j ≠ 0 then some (PV.int (i.fmod j)) else none) = _
  rw [if_pos h]
theorem bAddL (h : xs.length + ys.length ≤ sizeLine) : binP .Add M (.lst xs) (.lst ys) = some (.lst (xs ++ ys)) := by
  show (if xs.length + ys.length ≤ sizeLine then some (PV.lst (xs ++ ys)) else none) = _
  rw [if_pos h]
theorem bAddT (h : xs.length + ys.length ≤ sizeLine) : binP .Add M (.tup xs) (.tup ys) = some (.tup (xs ++ ys)) := by
  show (if xs.length + ys.length ≤ sizeLine then some (PV.tup (xs ++ ys)) else none) = _
  rw [if_pos h]
theorem bMulL (h : repOk xs j = true) : binP .Mult M (.lst xs) (.int j) = some (.lst (repP xs j)) := by
  show (if repOk xs j = true then some (PV.lst (repP xs j)) else none) = _
  rw [if_pos h]
theorem bMulT (h : repOk xs j = true) : binP .Mult M (.tup xs) (.int j) = some (.tup (repP xs j)) := by
  show (if repOk xs j = true then some (PV.tup (repP xs j)) else none) = _
  rw [if_pos h]
@[simp] theorem nInt : negP M (.int i) = some (.int (-i)) := rfl
@[simp] theorem biLenT : biP .len M [.tup xs] = some (.int xs.length) := rfl
@[simp] theorem biLenL : biP .len M [.lst xs] = some (.int xs.length) := rfl
theorem biLenR {n : Nat} (h : lstAt M n = some xs) : biP .len M [.ref n] = some (.int xs.length) := by
  show (match lstAt M n with | some xs => some (PV.int xs.length) | none => none) = _
  rw [h]
@[simp] theorem biAbs : biP .abs M [.int i] = some (.int (if i < 0 then -i else i)) := rfl
@[simp] theorem biInt : biP .int M [.int i] = some (.int i) := rfl
@[simp] theorem biIntB : biP .int M [.bl b] = some (.int (if b then 1 else 0)) := rfl
@[simp] theorem biTupT : biP .tuple M [.tup xs] = some (.tup xs) := rfl
@[simp] theorem biTupL : biP .tuple M [.lst xs] = some (.tup xs) := rfl
theorem biTupR {n : Nat} (h : lstAt M n = some xs) : biP .tuple M [.ref n] = some (.tup xs) := by
  show (lstAt M n).map PV.tup = _
  rw [h]
  rfl
@[simp] theorem biLstT : biP .list M [.tup xs] = some (.lst xs) := rfl
@[simp] theorem biLstL : biP .list M [.lst xs] = some (.lst xs) := rfl
@[simp] theorem biMin2 : biP .min M [.int i, .int j] = some (.int (if j < i then j else i)) := rfl
@[simp] theorem biMax2 : biP .max M [.int i, .int j] = some (.int (if i < j then j else i)) := rfl
theorem intsOf_m : ∀ l : List Int, intsOf (l.map .int) = some l
  | [] => rfl
  | x :: l => by simp only [List.map_cons, intsOf, intsOf_m l]
theorem biSum (l : List Int) : biP .sum M [.lst (l.map .int)] = some (.int l.sum) := by
  show (intsOf (l.map .int)).map (fun ns => PV.int ns.sum) = _
  rw [intsOf_m]
  rfl
theorem biMaxL {n : Int} {l : List Int} : biP .max M [.lst ((n :: l).map .int)] = some (.int (maxI (n :: l))) := by
  have h := intsOf_m (n :: l)
  show (match intsOf ((n :: l).map PV.int) with
    | some (n :: ns) => some (PV.int (maxI (n :: ns)))
    | some [] => none
    | none => maxDL ((n :: l).map PV.int)) = _
  rw [h]
theorem blsOf_m {α : Type} (f : α → Bool) : ∀ l : List α, blsOf (l.map fun x => PV.bl (f x)) = some (l.map f)
  | [] => rfl
  | x :: l => by
    simp only [List.map_cons, blsOf, blsOf_m f l]
theorem biAll {α : Type} (f : α → Bool) (l : List α) : biP .all M [.lst (l.map fun x => PV.bl (f x))] = some (.bl (l.all f)) := by
  show (blsOf (l.map fun x => PV.bl (f x))).map (fun bs => PV.bl (bs.all id)) = _
  rw [blsOf_m]
  simp
theorem biAny {α : Type} (f : α → Bool) (l : List α) : biP .any M [.lst (l.map fun x => PV.bl (f x))] = some (.bl (l.any f)) := by
  show (blsOf (l.map fun x => PV.bl (f x))).map (fun bs => PV.bl (bs.any id)) = _
  rw [blsOf_m]
  simp
@[simp] theorem isiT : biP .isinst M [.tup xs, .ty "tuple"] = some (.bl true) := by
  show (L2.kitB "tuple" "tuple").map PV.bl = _
  rw [kit_tuple_tuple]; rfl
@[simp] theorem isiL : biP .isinst M [.lst xs, .ty "tuple"] = some (.bl false) := by
  show (L2.kitB "list" "tuple").map PV.bl = _
  rw [kit_list_tuple]; rfl
@[simp] theorem isiN : biP .isinst M [.non, .ty "tuple"] = some (.bl false) := by
  show (L2.kitB "NoneType" "tuple").map PV.bl = _
  rw [kit_NoneType_tuple]; rfl
@[simp] theorem isiI : biP .isinst M [.int i, .ty "tuple"] = some (.bl false) := by
  show (L2.kitB "int" "tuple").map PV.bl = _
  rw [kit_int_tuple]; rfl
@[simp] theorem seqT : seqIt M (.tup xs) = some ⟨xs, []⟩ := rfl
@[simp] theorem seqL : seqIt M (.lst xs) = some ⟨xs, []⟩ := rfl
@[simp] theorem isNN : isNotP M .non .non = some (.bl false) := rfl
@[simp] theorem isNT : isNotP M (.tup xs) .non = some (.bl true) := rfl
@[simp] theorem mAppend {n : Nat} {xs : List PV} (h : lstAt M n = some xs) : tyM M (.ref n) = true := by
  unfold tyM
  simp [h]
theorem bmAppend {n : Nat} (h : lstAt M n = some xs) (hl : xs.length < sizeLine) : bmR .append M (.ref n) [p] = .ok .non (M.set n (some (.lst (xs ++ [p])))) := by
  unfold bmR bmP
  simp only [appP, h]
  rw [if_pos hl]
end
theorem rngIt0 {n : Nat} (h : n ≤ 1000) : rngIt 0 (n : Int) = some ⟨(List.range n).map fun j : Nat => PV.int (j : Int), []⟩ := by
  have hr : rngL 0 1 n = (List.range n).map fun j : Nat => PV.int (j : Int) := by
    unfold rngL
    simp
  unfold rngIt
  have e0 : ((n : Int) - 0).toNat = n := by omega
  have hz : 1000 ≤ sizeLine := by decide
  rw [if_pos (by simp only [rngOk, Bool.and_eq_true, decide_eq_true_eq]; omega), e0, hr]
theorem enumLA {α : Type} (f : α → PV) (l : List α) : enumL (l.map f) = l.zipIdx.map fun p => .tup [.int (p.2 : Int), f p.1] := by
  unfold enumL
  rw [List.zipIdx_map, List.map_map]
  rfl
theorem zipLA {α β : Type} (f : α → PV) (g : β → PV) (l : List α) (m : List β) : zipL (l.map f) (m.map g) = (l.zip m).map fun p => .tup [f p.1, g p.2] := by
  unfold zipL
  rw [List.zip_map, List.map_map]
  rfl
end DI
set_option maxHeartbeats 4000000
namespace DI
open PySem
/-! ### values whose == is sameness -/
mutual
def cln : Nat → PV → Bool
  | _, .non => true
  | _, .int _ => true
  | _, .str s => (PyData.str s).canLay0
  | n + 1, .tup xs => clns n xs
  | n + 1, .lst xs => clns n xs
  | _, _ => false
def clns : Nat → List PV → Bool
  | _, [] => true
  | n, x :: xs => cln n x && clns n xs
end
mutual
theorem cln_dat : ∀ (p : PV) (n : Nat), cln n p = true → ∃ d, dat p = some d ∧ d.canLay0 = true ∧ d.depth ≤ n
  | .non, n, h => ⟨_, rfl, rfl, by simp [PyData.depth]⟩
  | .int i, n, h => ⟨_, rfl, rfl, by simp [PyData.depth]⟩
  | .str s, n, h => ⟨_, rfl, by unfold cln at h; exact h, by simp [PyData.depth]⟩
  | .tup xs, 0, h => by simp [cln] at h
  | .lst xs, 0, h => by simp [cln] at h
  | .tup xs, n + 1, h => by
    unfold cln at h
    obtain ⟨ds, e, h1, h2⟩ := clns_dat xs n h
    exact ⟨.tuple ds, by simp [dat, e], by simpa [PyData.canLay0] using h1, by simp [PyData.depth]; omega⟩
  | .lst xs, n + 1, h => by
    unfold cln at h
    obtain ⟨ds, e, h1, h2⟩ := clns_dat xs n h
    exact ⟨.list ds, by simp [dat, e], by simpa [PyData.canLay0] using h1, by simp [PyData.depth]; omega⟩
  | .bl b, n, h => by simp [cln] at h
  | .ref b, n, h => by simp [cln] at h
  | .fn b, n, h => by simp [cln] at h
  | .ty b, n, h => by simp [cln] at h
  | .scr b, n, h => by simp [cln] at h
theorem clns_dat : ∀ (ps : List PV) (n : Nat), clns n ps = true → ∃ ds, dats ps = some ds ∧ PyData.canLayAll0 ds = true ∧ PyData.depthAll ds ≤ n
  | [], n, h => ⟨[], rfl, rfl, by simp [PyData.depthAll]⟩
  | p :: ps, n, h => by
    unfold clns at h
    obtain ⟨h1, h2⟩ := Bool.and_eq_true_iff.mp h
    obtain ⟨d, e1, a1, b1⟩ := cln_dat p n h1
    obtain ⟨ds, e2, a2, b2⟩ := clns_dat ps n h2
    exact ⟨d :: ds, by simp [dats, e1, e2], by simp [PyData.canLayAll0, a1, a2], by simp [PyData.depthAll]; omega⟩
end
theorem eqv_non (e : PyData) : PyData.eqv .none e = true ↔ e = .none := by cases e <;> simp [PyData.eqv]
theorem eqv_int (i : Int) (e : PyData) (h : ∀ b, e ≠ .bool b) : PyData.eqv (.int i) e = true ↔ e = .int i := by
  cases e with
  | bool b => exact absurd rfl (h b)
  | int j => simp [PyData.eqv]; exact eq_comm
  | _ => simp [PyData.eqv]
theorem eqv_str (i : Str) (e : PyData) : PyData.eqv (.str i) e = true ↔ e = .str i := by
  cases e with
  | str j => simp [PyData.eqv]; exact eq_comm
  | _ => simp [PyData.eqv]
theorem eqv_tup (xs : List PyData) (e : PyData) : PyData.eqv (.tuple xs) e = true ↔ ∃ ys, e = .tuple ys ∧ PyData.eqvAll xs ys = true := by
  cases e <;> simp [PyData.eqv]
theorem eqv_lst (xs : List PyData) (e : PyData) : PyData.eqv (.list xs) e = true ↔ ∃ ys, e = .list ys ∧ PyData.eqvAll xs ys = true := by
  cases e <;> simp [PyData.eqv]
theorem eqv_nil (es : List PyData) : PyData.eqvAll [] es = true ↔ es = [] := by
  cases es <;> simp [PyData.eqvAll]
theorem eqv_cons (d : PyData) (ds es : List PyData) : PyData.eqvAll (d :: ds) es = true ↔ ∃ x xs, es = x :: xs ∧ PyData.eqv d x = true ∧ PyData.eqvAll ds xs = true := by
  cases es with
  | nil => simp [PyData.eqvAll]
  | cons x xs =>
    simp only [PyData.eqvAll, Bool.and_eq_true]
    constructor
    · rintro ⟨a, b⟩
      exact ⟨_, _, rfl, a, b⟩
    · rintro ⟨_, _, e, a, b⟩
      cases e
      exact ⟨a, b⟩
theorem dat_non {q : PV} {e : PyData} (h : dat q = some e) : e = .none ↔ q = .non := by
  cases q <;> simp [dat] at h <;> first | (subst h; simp) | (obtain ⟨x, _, rfl⟩ := h; simp)
theorem dat_int {q : PV} {e : PyData} {i : Int} (h : dat q = some e) : e = .int i ↔ q = .int i := by
  cases q <;> simp [dat] at h <;> first | (subst h; simp) | (obtain ⟨x, _, rfl⟩ := h; simp)
theorem dat_str {q : PV} {e : PyData} {i : Str} (h : dat q = some e) : e = .str i ↔ q = .str i := by
  cases q <;> simp [dat] at h <;> first | (subst h; simp) | (obtain ⟨x, _, rfl⟩ := h; simp)
theorem dat_tup {q : PV} {ys : List PyData} (h : dat q = some (.tuple ys)) : ∃ qs, q = .tup qs ∧ dats qs = some ys := by
  cases q <;> simp [dat] at h <;> exact ⟨_, rfl, h⟩
theorem dat_lst {q : PV} {ys : List PyData} (h : dat q = some (.list ys)) : ∃ qs, q = .lst qs ∧ dats qs = some ys := by
  cases q <;> simp [dat] at h <;> exact ⟨_, rfl, h⟩
theorem cln_nobool {q : PV} {n : Nat} {b : Bool} (hq : cln n q = true) (h : dat q = some (.bool b)) : False := by
  cases q <;> simp [dat] at h
  simp [cln] at hq
mutual
theorem cln_eqv : ∀ (p q : PV) (n m : Nat) (d e : PyData), cln n p = true → cln m q = true → dat p = some d → dat q = some e → (PyData.eqv d e = true ↔ p = q)
  | .non, q, n, m, d, e, hp, hq, h1, h2 => by
    have h1 : PyData.none = d := Option.some.inj h1
    subst h1
    rw [eqv_non, dat_non h2]
    exact eq_comm
  | .int i, q, n, m, d, e, hp, hq, h1, h2 => by
    have h1 : PyData.int i = d := Option.some.inj h1
    subst h1
    rw [eqv_int i e (fun b hb => cln_nobool hq (hb ▸ h2)), dat_int h2]
    exact eq_comm
  | .str i, q, n, m, d, e, hp, hq, h1, h2 => by
    have h1 : PyData.str i = d := Option.some.inj h1
    subst h1
    rw [eqv_str, dat_str h2]
    exact eq_comm
  | .tup xs, q, 0, m, d, e, hp, hq, h1, h2 => by simp [cln] at hp
  | .lst xs, q, 0, m, d, e, hp, hq, h1, h2 => by simp [cln] at hp
  | .tup xs, q, n + 1, m, d, e, hp, hq, h1, h2 => by
    unfold cln at hp
    obtain ⟨ds, e1, _, _⟩ := clns_dat xs n hp
    simp only [dat, e1, Option.map_some, Option.some.injEq] at h1
    subst h1
    rw [eqv_tup]
    constructor
    · rintro ⟨ys, rfl, h⟩
      obtain ⟨qs, rfl, e2⟩ := dat_tup h2
      cases m with
      | zero => simp [cln] at hq
      | succ m =>
        unfold cln at hq
        rw [(clns_eqv xs qs n m ds ys hp hq e1 e2).mp h]
    · rintro rfl
      simp only [dat, e1, Option.map_some, Option.some.injEq] at h2
      exact ⟨ds, h2.symm, (clns_eqv xs xs n n ds ds hp hp e1 e1).mpr rfl⟩
  | .lst xs, q, n + 1, m, d, e, hp, hq, h1, h2 => by
    unfold cln at hp
    obtain ⟨ds, e1, _, _⟩ := clns_dat xs n hp
    simp only [dat, e1, Option.map_some, Option.some.injEq] at h1
    subst h1
    rw [eqv_lst]
    constructor
    · rintro ⟨ys, rfl, h⟩
      obtain ⟨qs, rfl, e2⟩ := dat_lst h2
      cases m with
      | zero => simp [cln] at hq
      | succ m =>
        unfold cln at hq
        rw [(clns_eqv xs qs n m ds ys hp hq e1 e2).mp h]
    · rintro rfl
      simp only [dat, e1, Option.map_some, Option.some.injEq] at h2
      exact ⟨ds, h2.symm, (clns_eqv xs xs n n ds ds hp hp e1 e1).mpr rfl⟩
  | .bl b, _, n, _, _, _, h, _, _, _ => by simp [cln] at h
  | .ref b, _, n, _, _, _, h, _, _, _ => by simp [cln] at h
  | .fn b, _, n, _, _, _, h, _, _, _ => by simp [cln] at h
  | .ty b, _, n, _, _, _, h, _, _, _ => by simp [cln] at h
  | .scr b, _, n, _, _, _, h, _, _, _ => by simp [cln] at h
theorem clns_eqv : ∀ (ps qs : List PV) (n m : Nat) (ds es : List PyData), clns n ps = true → clns m qs = true → dats ps = some ds → dats qs = some es → (PyData.eqvAll ds es = true ↔ ps = qs)
  | [], qs, n, m, ds, es, hp, hq, h1, h2 => by
    simp only [dats, Option.some.injEq] at h1
    subst h1
    rw [eqv_nil]
    cases qs with
    | nil =>
      simp only [dats, Option.some.injEq] at h2
      exact ⟨fun _ => rfl, fun _ => h2.symm⟩
    | cons q qs =>
      unfold clns at hq
      obtain ⟨q1, q2⟩ := Bool.and_eq_true_iff.mp hq
      obtain ⟨d, e1, _, _⟩ := cln_dat q m q1
      obtain ⟨ds, e2, _, _⟩ := clns_dat qs m q2
      simp only [dats, e1, e2, Option.some.injEq] at h2
      subst h2
      exact ⟨fun h => by simp at h, fun h => by simp at h⟩
  | p :: ps, qs, n, m, ds, es, hp, hq, h1, h2 => by
    unfold clns at hp
    obtain ⟨p1, p2⟩ := Bool.and_eq_true_iff.mp hp
    obtain ⟨dp, e1, _, _⟩ := cln_dat p n p1
    obtain ⟨dps, e2, _, _⟩ := clns_dat ps n p2
    simp only [dats, e1, e2, Option.some.injEq] at h1
    subst h1
    rw [eqv_cons]
    cases qs with
    | nil =>
      simp only [dats, Option.some.injEq] at h2
      subst h2
      exact ⟨fun ⟨_, _, h, _⟩ => by simp at h, fun h => by simp at h⟩
    | cons q qs =>
      unfold clns at hq
      obtain ⟨q1, q2⟩ := Bool.and_eq_true_iff.mp hq
      obtain ⟨d, e3, _, _⟩ := cln_dat q m q1
      obtain ⟨ds, e4, _, _⟩ := clns_dat qs m q2
      simp only [dats, e3, e4, Option.some.injEq] at h2
      subst h2
      have t1 := cln_eqv p q n m dp d p1 q1 e1 e3
      have t2 := clns_eqv ps qs n m dps ds p2 q2 e2 e4
      constructor
      · rintro ⟨_, _, h, a, b⟩
        cases h
        rw [t1.mp a, t2.mp b]
      · intro h
        cases h
        exact ⟨_, _, rfl, t1.mpr rfl, t2.mpr rfl⟩
end
theorem cln_datM {M : Store} {p : PV} {n : Nat} (h : cln n p = true) : datM M p = dat p := by
  cases p <;> first | rfl | simp [cln] at h
theorem eqP_cln {M : Store} {p q : PV} (hp : cln 60 p = true) (hq : cln 60 q = true) : ∃ b, eqP M p q = some (.bl b) ∧ neP M p q = some (.bl (!b)) ∧ (b = true ↔ p = q) := by
  obtain ⟨d, e1, a1, b1⟩ := cln_dat p 60 hp
  obtain ⟨e, e2, a2, b2⟩ := cln_dat q 60 hq
  have hs : (SeqAt.shaped d && SeqAt.shaped e) = true := by
    simp only [SeqAt.shaped, a1, a2, Bool.true_and, Bool.and_eq_true, decide_eq_true_eq]
    omega
  refine ⟨PyData.eqv d e, ?_, ?_, cln_eqv p q 60 60 d e hp hq e1 e2⟩
  · unfold eqP
    rw [cln_datM hp, cln_datM hq, e1, e2]
    dsimp only
    rw [if_pos hs]
  · unfold neP
    rw [cln_datM hp, cln_datM hq, e1, e2]
    dsimp only
    rw [if_pos hs]
theorem eqP_same {M : Store} {p : PV} (hp : cln 60 p = true) : eqP M p p = some (.bl true) := by
  obtain ⟨b, e, _, h⟩ := eqP_cln (M := M) hp hp
  rw [e, h.mpr rfl]
theorem neP_same {M : Store} {p : PV} (hp : cln 60 p = true) : neP M p p = some (.bl false) := by
  obtain ⟨b, _, e, h⟩ := eqP_cln (M := M) hp hp
  rw [e, h.mpr rfl]
  rfl
theorem eqP_diff {M : Store} {p q : PV} (hp : cln 60 p = true) (hq : cln 60 q = true) (h : p ≠ q) : eqP M p q = some (.bl false) := by
  obtain ⟨b, e, _, hb⟩ := eqP_cln (M := M) hp hq
  cases b with
  | true => exact absurd (hb.mp rfl) h
  | false => exact e
theorem neP_diff {M : Store} {p q : PV} (hp : cln 60 p = true) (hq : cln 60 q = true) (h : p ≠ q) : neP M p q = some (.bl true) := by
  obtain ⟨b, _, e, hb⟩ := eqP_cln (M := M) hp hq
  cases b with
  | true => exact absurd (hb.mp rfl) h
  | false => exact e
theorem clns_all {n : Nat} : ∀ {xs : List PV}, (∀ x ∈ xs, cln n x = true) → clns n xs = true
  | [], _ => rfl
  | x :: xs, h => by
    unfold clns
    rw [h x List.mem_cons_self, clns_all fun y hy => h y (List.mem_cons_of_mem _ hy)]
    rfl
theorem cln_tup {n : Nat} {xs : List PV} (h : ∀ x ∈ xs, cln n x = true) : cln (n + 1) (.tup xs) = true := by
  unfold cln
  exact clns_all h
theorem cln_lst {n : Nat} {xs : List PV} (h : ∀ x ∈ xs, cln n x = true) : cln (n + 1) (.lst xs) = true := by
  unfold cln
  exact clns_all h
mutual
theorem cln_le : ∀ (p : PV) (n m : Nat), n ≤ m → cln n p = true → cln m p = true
  | .non, _, _, _, _ => by simp [cln]
  | .int i, _, _, _, _ => by simp [cln]
  | .str s, _, _, _, h => by simpa [cln] using h
  | .tup xs, 0, _, _, h => by simp [cln] at h
  | .lst xs, 0, _, _, h => by simp [cln] at h
  | .tup xs, n + 1, 0, hl, h => by omega
  | .lst xs, n + 1, 0, hl, h => by omega
  | .tup xs, n + 1, m + 1, hl, h => by
    unfold cln at h ⊢
    exact clns_le xs n m (by omega) h
  | .lst xs, n + 1, m + 1, hl, h => by
    unfold cln at h ⊢
    exact clns_le xs n m (by omega) h
  | .bl b, n, _, _, h => by simp [cln] at h
  | .ref b, n, _, _, h => by simp [cln] at h
  | .fn b, n, _, _, h => by simp [cln] at h
  | .ty b, n, _, _, h => by simp [cln] at h
  | .scr b, n, _, _, h => by simp [cln] at h
theorem clns_le : ∀ (ps : List PV) (n m : Nat), n ≤ m → clns n ps = true → clns m ps = true
  | [], _, _, _, _ => by simp [clns]
  | p :: ps, n, m, hl, h => by
    unfold clns at h ⊢
    obtain ⟨h1, h2⟩ := Bool.and_eq_true_iff.mp h
    rw [cln_le p n m hl h1, clns_le ps n m hl h2]
    rfl
end
/-! ### repr -/
theorem sok_append {a b : Str} (h1 : PyData.strOk a = true) (h2 : PyData.strOk b = true) : PyData.strOk (a ++ b) = true := by
  unfold PyData.strOk at *
  have e : (a ++ b).cps = a.cps ++ b.cps := rfl
  rw [e, Array.all_append, h1, h2]
  rfl
theorem sok_of (s : String) : PyData.strOk (Str.ofString s) = true := by
  rw [Str.ofString_eq_toList]
  unfold PyData.strOk
  simp only [List.all_toArray, List.all_map, List.all_eq_true, Function.comp_apply, decide_eq_true_eq]
  intro c hc
  have := c.valid
  have h2 : c.toNat = c.val.toNat := rfl
  rw [h2]
  rcases this with h | ⟨_, h⟩
  · have : c.val.toNat < 0xd800 := h
    omega
  · have : c.val.toNat < 0x110000 := h
    omega
theorem sok_join {sep : Str} (hs : PyData.strOk sep = true) : ∀ {ts : List Str}, (∀ t ∈ ts, PyData.strOk t = true) → PyData.strOk (Str.join sep ts) = true
  | [], _ => by rw [Str.join]; simp [PyData.strOk, Str.empty]
  | [x], h => h x List.mem_cons_self
  | x :: y :: r, h => sok_append (sok_append (h x List.mem_cons_self) hs) (sok_join hs fun t ht => h t (List.mem_cons_of_mem _ ht))
theorem sok_from : ∀ {ts : List Str} {k : Nat} {acc : Str}, PyData.strOk acc = true → (∀ t ∈ ts, PyData.strOk t = true) → PyData.strOk (textFrom k acc ts) = true
  | [], k, acc, h, _ => h
  | t :: r, k, acc, h, h2 => sok_from (ts := r) (k := k + 1) (sok_append (sok_append h (sok_of _)) (h2 t List.mem_cons_self)) fun t ht => h2 t (List.mem_cons_of_mem _ ht)
theorem sok_tuple {ts : List Str} (h : ∀ t ∈ ts, PyData.strOk t = true) : PyData.strOk (tupleText ts) = true := sok_append (sok_append (sok_of _) (sok_join (sok_of _) h)) (sok_of _)
theorem sok_list {ts : List Str} (h : ∀ t ∈ ts, PyData.strOk t = true) : PyData.strOk (listText ts) = true := sok_append (sok_from (sok_of _) h) (sok_of _)
def Rsz (p : PV) (n : Nat) : Prop := ∃ d, dat p = some d ∧ d.showable = true ∧ d.shown.length ≤ n ∧ PyData.strOk d.shown = true
theorem Rsz.mono {p : PV} {n m : Nat} (h : Rsz p n) (hl : n ≤ m) : Rsz p m := by
  obtain ⟨d, e, s, l, o⟩ := h
  exact ⟨d, e, s, Nat.le_trans l hl, o⟩
theorem Rsz.non : Rsz .non 4 := ⟨_, rfl, rfl, by simp only [PyData.shown]; decide, by simp only [PyData.shown]; exact sok_of _⟩
theorem Rsz.int {i : Int} (h : i.natAbs < 10 ^ 20) : Rsz (.int i) 21 := by
  refine ⟨.int i, rfl, ?_, ?_, by simp only [PyData.shown]; exact sok_of _⟩
  · simp only [PyData.showable, decide_eq_true_eq]
    have h2 : i.natAbs < 2 ^ 128 := Nat.lt_of_lt_of_le h (by decide)
    by_cases h0 : i.natAbs = 0
    · rw [h0]; decide
    · have := (Nat.log2_lt h0).mpr h2
      omega
  · simp only [PyData.shown]
    show (Str.ofString (toString i)).length ≤ 21
    rw [ofString_length]
    exact int_text_length_le10 (k := 20) (by decide) h
theorem textFrom_up : ∀ (ts : List Str) (k : Nat) (acc : Str), (textFrom k acc ts).length ≤ acc.length + piled ts
  | [], k, acc => by
    show acc.length ≤ _
    omega
  | t :: r, k, acc => by
    have h := textFrom_up r (k + 1) (acc ++ (if k > 0 then ", " else "" : String) ++ t)
    have e : (acc ++ (if k > 0 then ", " else "" : String) ++ t).length = acc.length + (if k > 0 then 2 else 0) + t.length := by
      rw [strLen_append, strLen_append]
      split <;> rfl
    rw [e] at h
    rw [piled_cons]
    show (textFrom (k + 1) _ r).length ≤ _
    have : (if k > 0 then 2 else 0 : Nat) ≤ 2 := by split <;> omega
    omega
theorem tupleText_up (ts : List Str) : (tupleText ts).length ≤ 3 + piled ts := by
  unfold tupleText
  rw [strLen_append, strLen_append]
  have e1 : ((("(" : String) : Str)).length = 1 := rfl
  have e3 : (((if ts.length == 1 then ",)" else ")" : String) : Str)).length ≤ 2 := by split <;> decide
  rw [e1]
  by_cases h : ts = []
  · subst h
    have : (Str.join ", " []).length = 0 := rfl
    omega
  · have := join_length_add ts h
    omega
theorem listText_up (ts : List Str) : (listText ts).length ≤ 2 + piled ts := by
  unfold listText
  rw [strLen_append]
  have h := textFrom_up ts 0 "["
  have e1 : ((("[" : String) : Str)).length = 1 := rfl
  have e2 : ((("]" : String) : Str)).length = 1 := rfl
  rw [e2]
  rw [e1] at h
  omega
theorem rsz_all {c : Nat} : ∀ {xs : List PV}, (∀ x ∈ xs, Rsz x c) → ∃ ds, dats xs = some ds ∧ PyData.showableAll ds = true ∧ piled (PyData.shownAll ds) ≤ xs.length * (c + 2) ∧ ∀ t ∈ PyData.shownAll ds, PyData.strOk t = true
  | [], _ => ⟨[], rfl, rfl, by simp [PyData.shownAll, piled_nil], by simp [PyData.shownAll]⟩
  | x :: xs, h => by
    obtain ⟨d, e, s, l, o⟩ := h x List.mem_cons_self
    obtain ⟨ds, e2, s2, l2, o2⟩ := rsz_all fun y hy => h y (List.mem_cons_of_mem _ hy)
    refine ⟨d :: ds, by simp [dats, e, e2], by simp [PyData.showableAll, s, s2], ?_, ?_⟩
    · simp only [PyData.shownAll, piled_cons, List.length_cons, Nat.succ_mul]
      omega
    · intro t ht
      simp only [PyData.shownAll, List.mem_cons] at ht
      rcases ht with rfl | ht
      · exact o
      · exact o2 t ht
theorem Rsz.tup {c : Nat} {xs : List PV} (h : ∀ x ∈ xs, Rsz x c) : Rsz (.tup xs) (3 + xs.length * (c + 2)) := by
  obtain ⟨ds, e, s, l, o⟩ := rsz_all h
  refine ⟨.tuple ds, by simp [dat, e], by simpa [PyData.showable] using s, ?_, by simp only [PyData.shown]; exact sok_tuple o⟩
  simp only [PyData.shown]
  have := tupleText_up (PyData.shownAll ds)
  omega
theorem Rsz.lst {c : Nat} {xs : List PV} (h : ∀ x ∈ xs, Rsz x c) : Rsz (.lst xs) (2 + xs.length * (c + 2)) := by
  obtain ⟨ds, e, s, l, o⟩ := rsz_all h
  refine ⟨.list ds, by simp [dat, e], by simpa [PyData.showable] using s, ?_, by simp only [PyData.shown]; exact sok_list o⟩
  simp only [PyData.shown]
  have := listText_up (PyData.shownAll ds)
  omega
theorem reprP_of {M : Store} {p : PV} {n : Nat} (h : Rsz p n) (hc : cln 60 p = true) (hn : n ≤ sizeLine) : ∃ s, reprP M p = some (.str s) ∧ (PyData.str s).canLay0 = true := by
  obtain ⟨d, e, s, l, o⟩ := h
  obtain ⟨d', e', a, b⟩ := cln_dat p 60 hc
  rw [e] at e'
  cases e'
  have hd : d.hasDict = false := PyData.hasDict_of_canLay d a
  refine ⟨d.shown, ?_, ?_⟩
  · unfold reprP
    rw [cln_datM hc, e]
    dsimp only
    rw [if_pos (by simp only [s, hd, Bool.not_false, Bool.and_true, Bool.true_and, Bool.and_eq_true, decide_eq_true_eq]; omega)]
  · simpa [PyData.canLay0] using o
end DI
set_option maxHeartbeats 4000000
namespace DI
open PySem
/-! ### min of tuples of ints -/
def tupI (k : List Int) : PV := .tup (k.map .int)
def tupD (k : List Int) : PyData := .tuple (k.map .int)
theorem dats_ints : ∀ l : List Int, dats (l.map .int) = some (l.map .int)
  | [] => rfl
  | x :: l => by simp only [List.map_cons, dats, dat, dats_ints l]
theorem dat_tupI (k : List Int) : dat (tupI k) = some (tupD k) := by
  unfold tupI tupD
  simp only [dat, dats_ints]
  rfl
theorem dats_tupI : ∀ ks : List (List Int), dats (ks.map tupI) = some (ks.map tupD)
  | [] => rfl
  | k :: ks => by simp only [List.map_cons, dats, dat_tupI, dats_tupI ks]
theorem undats_ints : ∀ l : List Int, undats (l.map .int) = some (l.map .int)
  | [] => rfl
  | x :: l => by simp only [List.map_cons, undats, undat, undats_ints l]
theorem undat_tupD (k : List Int) : undat (tupD k) = some (tupI k) := by
  unfold tupI tupD
  simp only [undat, undats_ints]
  rfl
theorem alike_ints : ∀ x y : List Int, x.length = y.length → PySem.W.alikeAll (x.map .int) (y.map .int) = true
  | [], _, _ => by simp [PySem.W.alikeAll]
  | x :: xs, [], h => by simp at h
  | x :: xs, y :: ys, h => by
    simp only [List.map_cons, PySem.W.alikeAll, PySem.W.alike, Bool.true_and]
    exact alike_ints xs ys (by simpa using h)
theorem alike_tupD {x y : List Int} (h : x.length = y.length) : PySem.W.alike (tupD x) (tupD y) = true := by
  unfold tupD
  simp only [PySem.W.alike]
  exact alike_ints x y h
theorem lt_tupD (x y : List Int) : PySem.W.dataLt (tupD x) (tupD y) = decide (x < y) := by
  unfold tupD
  rw [PySem.W.dataLt_tuple]
  exact PySem.W.dataLt_ints x y
theorem lay_ints : ∀ l : List Int, PyData.canLayAll0 (l.map .int) = true
  | [] => rfl
  | x :: l => by simp [PyData.canLayAll0, PyData.canLay0, lay_ints l]
theorem depth_ints : ∀ l : List Int, PyData.depthAll (l.map .int) = 0
  | [] => by simp [PyData.depthAll]
  | x :: l => by simp [PyData.depthAll, PyData.depth, depth_ints l]
theorem depth_tupD : ∀ ks : List (List Int), PyData.depthAll (ks.map tupD) ≤ 1
  | [] => by simp [PyData.depthAll]
  | x :: l => by
    have h := depth_tupD l
    have e : (tupD x).depth = 1 := by
      unfold tupD
      simp [PyData.depth, depth_ints]
    simp only [List.map_cons, PyData.depthAll, e]
    omega
theorem minD_tupD : ∀ (ks : List (List Int)) (k : List Int), ∃ m, PySem.W.minD (tupD k) (ks.map tupD) = tupD m ∧ m ∈ k :: ks ∧ ∀ y ∈ k :: ks, ¬ y < m
  | [], k => ⟨k, rfl, by simp, by simp⟩
  | y :: ks, k => by
    unfold PySem.W.minD
    rw [List.map_cons, List.foldl_cons, lt_tupD]
    by_cases h : y < k
    · obtain ⟨m, e, h1, h2⟩ := minD_tupD ks y
      unfold PySem.W.minD at e
      rw [if_pos (decide_eq_true h)]
      refine ⟨m, e, ?_, ?_⟩
      · rcases List.mem_cons.mp h1 with q | q
        · subst q; simp
        · simp [q]
      · intro z hz
        rcases List.mem_cons.mp hz with q | q
        · subst q
          intro hk
          exact h2 y List.mem_cons_self (List.lt_trans h hk)
        · exact h2 z q
    · obtain ⟨m, e, h1, h2⟩ := minD_tupD ks k
      unfold PySem.W.minD at e
      rw [if_neg (by simpa using h)]
      refine ⟨m, e, ?_, ?_⟩
      · rcases List.mem_cons.mp h1 with q | q
        · subst q; simp
        · simp [q]
      · intro z hz
        rcases List.mem_cons.mp hz with q | q
        · subst q
          exact h2 z List.mem_cons_self
        · rcases List.mem_cons.mp q with q | q
          · subst q
            intro hk
            have h3 := h2 k List.mem_cons_self
            have h4 : m ≤ k := List.not_lt.mp h3
            have h5 : k ≤ z := List.not_lt.mp h
            have h6 : ¬ z < m := List.not_lt.mpr (List.le_trans h4 h5)
            exact h6 hk
          · exact h2 z (List.mem_cons_of_mem _ q)
theorem intsOf_tupI (k : List Int) (ks : List (List Int)) : intsOf ((k :: ks).map tupI) = none := by
  simp only [List.map_cons, tupI, intsOf]
theorem minL_tup {d : Nat} (ks : List (List Int)) (hk : ks ≠ []) (hd : ∀ k ∈ ks, k.length = d) : ∃ m, minDL (ks.map tupI) = some (tupI m) ∧ m ∈ ks ∧ ∀ y ∈ ks, ¬ y < m := by
  cases ks with
  | nil => exact absurd rfl hk
  | cons k ks =>
    obtain ⟨m, e, h1, h2⟩ := minD_tupD ks k
    refine ⟨m, ?_, h1, h2⟩
    unfold minDL
    rw [dats_tupI]
    simp only [List.map_cons]
    have hok : okMM (tupD k :: ks.map tupD) = true := by
      unfold okMM
      have hdep : PyData.depthAll (tupD k :: ks.map tupD) ≤ 1 := depth_tupD (k :: ks)
      rw [decide_eq_true (by omega), Bool.and_true, List.all_eq_true]
      intro x hx
      have hx' : x ∈ (k :: ks).map tupD := hx
      obtain ⟨a, ha, rfl⟩ := List.mem_map.mp hx'
      have h1 : (tupD a).canLay0 = true := by
        unfold tupD
        simp [PyData.canLay0, lay_ints]
      have h3 : notNone (tupD a) = true := rfl
      rw [h1, h3, Bool.and_true, Bool.and_true, List.all_eq_true]
      intro y hy
      have hy' : y ∈ (k :: ks).map tupD := hy
      obtain ⟨b, hb, rfl⟩ := List.mem_map.mp hy'
      exact alike_tupD (by rw [hd a ha, hd b hb])
    rw [if_pos hok, e, undat_tupD]
theorem biMinT {M : Store} {n d : Nat} (ks : List (List Int)) (hl : lstAt M n = some (ks.map tupI)) (hk : ks ≠ []) (hd : ∀ k ∈ ks, k.length = d) : ∃ m, biP .min M [.ref n] = some (tupI m) ∧ m ∈ ks ∧ ∀ y ∈ ks, ¬ y < m := by
  obtain ⟨m, e, h⟩ := minL_tup ks hk hd
  refine ⟨m, ?_, h⟩
  show minL M (.ref n) = _
  have hi : itemsL M (.ref n) = some (ks.map tupI) := hl
  unfold minL
  rw [hi]
  cases ks with
  | nil => exact absurd rfl hk
  | cons k ks =>
    dsimp only
    rw [intsOf_tupI]
    exact e
theorem datM_ref {M : Store} {n : Nat} {xs : List PV} (h : lstAt M n = some xs) : datM M (.ref n) = datM M (.lst xs) := by
  unfold lstAt at h
  split at h
  · rename_i ys hy
    cases h
    unfold datM
    simp only [hy, dat]
  · cases h
theorem neP_ref {M : Store} {n : Nat} {xs : List PV} {q : PV} (h : lstAt M n = some xs) : neP M (.ref n) q = neP M (.lst xs) q := by
  unfold neP
  rw [datM_ref h]
theorem eqP_ref {M : Store} {n : Nat} {xs : List PV} {q : PV} (h : lstAt M n = some xs) : eqP M (.ref n) q = eqP M (.lst xs) q := by
  unfold eqP
  rw [datM_ref h]
theorem cln_tupI (k : List Int) (n : Nat) : cln (n + 1) (tupI k) = true := by
  refine cln_tup fun x hx => ?_
  obtain ⟨i, _, rfl⟩ := List.mem_map.mp hx
  simp [cln]
end DI
set_option maxHeartbeats 4000000
/-! # DI: what has to hold ahead, word by word (weakest preconditions) -/
namespace DI
open PySem
def wpR {α : Type} (K : α → Store → Prop) (X : Exc → Store → Prop) : Res α → Prop
  | .ok a M => K a M
  | .exc x M => X x M
  | .bad => False
theorem wpR_bind {α β : Type} {K : β → Store → Prop} {X : Exc → Store → Prop} {r : Res α} {k : α → Store → Res β} (h : wpR (fun a M => wpR K X (k a M)) X r) : wpR K X (r.bind k) := by
  cases r with
  | ok a M => exact h
  | exc x M => exact h
  | bad => exact h
theorem wpR_imp {α : Type} {K K' : α → Store → Prop} {X X' : Exc → Store → Prop} {r : Res α} (h : wpR K X r) (hk : ∀ a M, K a M → K' a M) (hx : ∀ x M, X x M → X' x M) : wpR K' X' r := by
  cases r with
  | ok a M => exact hk a M h
  | exc x M => exact hx x M h
  | bad => exact h
def NoX : Exc → Store → Prop := fun _ _ => False
def NoS : Sl → Store → Prop := fun _ _ => False
def wpS (nx : Sl → Store → Prop) (rt : PV → Store → Prop) (lp lb : Sl → Store → Prop) (X : Exc → Sl → Store → Prop) : SRes → Prop
  | .nx sp M => nx sp M
  | .ret p M => rt p M
  | .cnt sp M => lp sp M
  | .brk sp M => lb sp M
  | .exc x sp M => X x sp M
  | .bad => False
section
variable (T : Tab) (Γ : Fns)
structure WE (e : CE) (sp : Sl) (M : Store) (K : PV → Store → Prop) (X : Exc → Store → Prop) : Prop where
  run : wpR K X (ev T Γ e sp M)
structure WES (es : CEs) (sp : Sl) (M : Store) (K : List PV → Store → Prop) (X : Exc → Store → Prop) : Prop where
  run : wpR K X (evs T Γ es sp M)
structure WI (it : CI) (sp : Sl) (M : Store) (K : ItV → Store → Prop) (X : Exc → Store → Prop) : Prop where
  run : wpR K X (evI T Γ it sp M)
structure WO (o : Option CE) (sp : Sl) (M : Store) (K : Option Int → Store → Prop) (X : Exc → Store → Prop) : Prop where
  run : wpR K X (evO T Γ o sp M)
structure WF (f : Nat) (ps : List PV) (M : Store) (K : PV → Store → Prop) (X : Exc → Store → Prop) : Prop where
  run : wpR K X (Γ f ps M)
structure WS (ss : CSs) (sp : Sl) (M : Store) (nx : Sl → Store → Prop) (rt : PV → Store → Prop) (lp lb : Sl → Store → Prop) (X : Exc → Sl → Store → Prop) : Prop where
  run : wpS nx rt lp lb X (exs T Γ ss sp M)
structure W1 (s : CS) (sp : Sl) (M : Store) (nx : Sl → Store → Prop) (rt : PV → Store → Prop) (lp lb : Sl → Store → Prop) (X : Exc → Sl → Store → Prop) : Prop where
  run : wpS nx rt lp lb X (ex T Γ s sp M)
structure FOR (gd : List (Nat × List PV)) (t : CT) (body : CSs) (items : List PV) (sp : Sl) (M : Store) (nx : Sl → Store → Prop) (rt : PV → Store → Prop) (lp lb : Sl → Store → Prop) (X : Exc → Sl → Store → Prop) : Prop where
  run : wpS nx rt lp lb X (forR gd (asg t) (exs T Γ body) items sp M)
structure CMP (own : List (Str × Nat)) (tg : CT) (cd : Option CE) (elt : CE) (sp : Sl) (J : ItV) (M : Store) (K : List PV → Store → Prop) (X : Exc → Store → Prop) : Prop where
  run : wpR K X (compR J.gd (stepC tg (own.map (·.2)) (evC T Γ cd) (ev T Γ elt) sp) J.items M)
structure HRD (h : HrdC) (x : Exc) (M : Store) (K : PV → Store → Prop) : Prop where
  run : ∃ p M2, runH T.exm x (List.replicate h.n none) M h.hs = .ret p M2 ∧ K p M2
end
structure OP (o : Option PV) (k : PV → Prop) : Prop where
  run : ∃ r, o = some r ∧ k r
structure NB (p : PV) (k : Bool → Prop) : Prop where
  run : ∃ b, p = .bl b ∧ k b
structure IFB (z : Bool) (P N : Prop) : Prop where
  t : z = true → P
  f : z = false → N
structure WSET (sp : Sl) (i : Nat) (p : Option PV) (k : Sl → Prop) : Prop where
  run : i < sp.length ∧ k (sp.set i p)
structure WASG (t : CT) (p : PV) (sp : Sl) (k : Sl → Prop) : Prop where
  run : ∃ sp1, asg t p sp = some sp1 ∧ k sp1
structure WASGS (ts : List CT) (ps : List PV) (sp : Sl) (k : Sl → Prop) : Prop where
  run : ∃ sp1, asgs ts ps sp = some sp1 ∧ k sp1
structure WIPE (own : List (Str × Nat)) (sp : Sl) (k : Sl → Prop) : Prop where
  run : k (wipeP sp (own.map (·.2)))
structure ITS (M : Store) (p : PV) (k : ItV → Prop) : Prop where
  run : ∃ J, seqIt M p = some J ∧ k J
structure APP (M1 M2 : Store) (p q : PV) (k : Store → Prop) : Prop where
  run : ∃ n xs ys, p = .ref n ∧ lstAt M1 n = some ys ∧ lstAt M2 n = some xs ∧ xs.length < sizeLine ∧ k (M2.set n (some (.lst (xs ++ [q]))))
/-! ### slots -/
section
variable {sp l : Sl} {x y : Option PV} {p : PV} {i : Nat} {k : Sl → Prop} {t : CT} {ts : List CT} {ps : List PV}
theorem WSET.z (h : k (y :: l)) : WSET (x :: l) 0 y k := ⟨by simp, h⟩
theorem WSET.s (h : WSET l i y fun l' => k (x :: l')) : WSET (x :: l) (i + 1) y k := ⟨by simpa using h.run.1, h.run.2⟩
theorem WASG.n (h : WSET sp i (some p) k) : WASG (.name i) p sp k := ⟨_, by simp only [asg]; rw [if_pos h.run.1], h.run.2⟩
theorem WASG.tu (h : WASGS ts ps sp k) : WASG (.tup ts) (.tup ps) sp k := by
  obtain ⟨sp1, h1, h2⟩ := h.run
  exact ⟨sp1, by simp only [asg]; exact h1, h2⟩
theorem WASGS.nil (h : k sp) : WASGS [] [] sp k := ⟨sp, by simp only [asgs], h⟩
theorem WASGS.cons (h : WASG t p sp fun sp1 => WASGS ts ps sp1 k) : WASGS (t :: ts) (p :: ps) sp k := by
  obtain ⟨sp1, h1, h2⟩ := h.run
  obtain ⟨sp2, h3, h4⟩ := h2.run
  exact ⟨sp2, by simp only [asgs, h1]; exact h3, h4⟩
theorem WIPE.nil (h : k sp) : WIPE [] sp k := ⟨h⟩
theorem WIPE.cons {s : Str} {own : List (Str × Nat)} (h : WIPE own sp fun sp1 => WSET sp1 i none k) : WIPE ((s, i) :: own) sp k := ⟨h.run.run.2⟩
end
/-! ### small parts -/
section
variable {z : Bool} {P N : Prop} {k : Bool → Prop} {kp : PV → Prop} {o : Option PV} {r : PV}
theorem OP.of (h : o = some r) (hk : kp r) : OP o kp := ⟨r, h, hk⟩
theorem NB.of (h : k z) : NB (.bl z) k := ⟨z, rfl, h⟩
theorem IFB.tt (h : P) : IFB true P N := ⟨fun _ => h, nofun⟩
theorem IFB.ff (h : N) : IFB false P N := ⟨nofun, fun _ => h⟩
theorem IFB.pos (e : z = true) (h : P) : IFB z P N := ⟨fun _ => h, fun e2 => by rw [e] at e2; cases e2⟩
theorem IFB.neg (e : z = false) (h : N) : IFB z P N := ⟨(fun e2 => by rw [e] at e2; cases e2), fun _ => h⟩
theorem IFB.dpos {p : Prop} [Decidable p] (e : p) (h : P) : IFB (decide p) P N := .pos (decide_eq_true e) h
theorem IFB.dneg {p : Prop} [Decidable p] (e : ¬ p) (h : N) : IFB (decide p) P N := .neg (decide_eq_false e) h
theorem IFB.dec {p : Prop} [Decidable p] (h1 : p → P) (h2 : ¬ p → N) : IFB (decide p) P N := ⟨fun e => h1 (of_decide_eq_true e), fun e => h2 (of_decide_eq_false e)⟩
theorem IFB.not (h : IFB z N P) : IFB (!z) P N := ⟨fun e => h.f (by simpa using e), fun e => h.t (by simpa using e)⟩
theorem IFB.both (h : P) (hn : N) : IFB z P N := ⟨fun _ => h, fun _ => hn⟩
end
/-! ### expressions -/
section
variable {T : Tab} {Γ : Fns} {sp : Sl} {M : Store} {a b c e e2 : CE} {es r : CEs} {i j : Nat} {K : PV → Store → Prop} {KS : List PV → Store → Prop} {X : Exc → Store → Prop}
theorem WE.var {p : PV} (h : sp[i]? = some (some p)) (hk : K p M) : WE T Γ (.var i) sp M K X := ⟨by rw [slot_some h]; exact hk⟩
theorem WE.non (hk : K .non M) : WE T Γ .non sp M K X := ⟨by rw [ev_non]; exact hk⟩
theorem WE.bl {x : Bool} (hk : K (.bl x) M) : WE T Γ (.bl x) sp M K X := ⟨by rw [ev_bl]; exact hk⟩
theorem WE.int {x : Int} (hk : K (.int x) M) : WE T Γ (.int x) sp M K X := ⟨by rw [ev_int]; exact hk⟩
theorem WE.str {x : Str} (hk : K (.str x) M) : WE T Γ (.str x) sp M K X := ⟨by rw [ev_str]; exact hk⟩
theorem WE.glob {q : Str × PV} (h : T.cst[i]? = some q) (hk : K q.2 M) : WE T Γ (.glob i) sp M K X := ⟨by rw [ev_glob, h, globK_some]; exact hk⟩
theorem WE.fn (hk : K (.fn i) M) : WE T Γ (.fn i) sp M K X := ⟨by rw [ev_fn]; exact hk⟩
theorem WE.bty {x : String} (hk : K (.ty x) M) : WE T Γ (.bty x) sp M K X := ⟨by rw [ev_bty]; exact hk⟩
theorem wpR_ofO {o : Option PV} {k : PV → Prop} (h : OP o k) (hk : ∀ p, k p → K p M) : wpR K X (Res.ofO o M) := by
  obtain ⟨r, e, h⟩ := h.run
  rw [e]
  exact hk r h
theorem WE.neg (h : WE T Γ a sp M (fun p M1 => OP (negP M1 p) fun r => K r M1) X) : WE T Γ (.neg a) sp M K X := ⟨by
  rw [ev_neg]
  exact wpR_bind (wpR_imp h.run (fun p M1 h => wpR_ofO h fun _ h => h) fun _ _ h => h)⟩
theorem WE.not (h : WE T Γ a sp M (fun p M1 => NB p fun z => K (.bl (!z)) M1) X) : WE T Γ (.notE a) sp M K X := ⟨by
  rw [ev_not]
  exact wpR_bind (wpR_imp h.run (fun p M1 h => by obtain ⟨z, rfl, h'⟩ := h.run; exact h') fun _ _ h => h)⟩
theorem WE.bin {op : Operator} (h : WE T Γ a sp M (fun p M1 => WE T Γ b sp M1 (fun q M2 => OP (binP op M2 p q) fun r => K r M2) X) X) : WE T Γ (.bin op a b) sp M K X := ⟨by
  rw [ev_bin]
  exact wpR_bind (wpR_imp h.run (fun p M1 h => wpR_bind (wpR_imp h.run (fun q M2 h => wpR_ofO h fun _ h => h) fun _ _ h => h)) fun _ _ h => h)⟩
theorem WE.cmp {op : CmpOp} (h : WE T Γ a sp M (fun p M1 => WE T Γ b sp M1 (fun q M2 => OP (cmpP op M2 p q) fun r => K r M2) X) X) : WE T Γ (.cmp op a b) sp M K X := ⟨by
  rw [ev_cmp]
  exact wpR_bind (wpR_imp h.run (fun p M1 h => wpR_bind (wpR_imp h.run (fun q M2 h => wpR_ofO h fun _ h => h) fun _ _ h => h)) fun _ _ h => h)⟩
theorem WE.cmp2 {op op2 : CmpOp} (h : WE T Γ a sp M (fun p M1 => WE T Γ b sp M1 (fun q M2 => OP (cmpP op M2 p q) fun r => NB r fun z => IFB z (WE T Γ c sp M2 (fun s M3 => OP (cmpP op2 M3 q s) fun t => K t M3) X) (K (.bl false) M2)) X) X) : WE T Γ (.cmp2 op op2 a b c) sp M K X := ⟨by
  rw [ev_cmp2]
  refine wpR_bind (wpR_imp h.run (fun p M1 h => wpR_bind (wpR_imp h.run (fun q M2 h => ?_) fun _ _ h => h)) fun _ _ h => h)
  obtain ⟨r, e, h⟩ := h.run
  obtain ⟨z, rfl, h'⟩ := h.run
  rw [e]
  cases z with
  | true => rw [cmp2K_t]; exact wpR_bind (wpR_imp (h'.t rfl).run (fun _ _ h => wpR_ofO h fun _ h => h) fun _ _ h => h)
  | false => rw [cmp2K_f]; exact h'.f rfl⟩
theorem WE.and1 (h : WE T Γ e sp M K X) : WE T Γ (.andE (.cons e .nil)) sp M K X := ⟨by rw [ev_and, evAnd_one]; exact h.run⟩
theorem WE.andc (h : WE T Γ e sp M (fun p M1 => NB p fun z => IFB z (WE T Γ (.andE (.cons e2 r)) sp M1 K X) (K (.bl false) M1)) X) : WE T Γ (.andE (.cons e (.cons e2 r))) sp M K X := ⟨by
  rw [ev_and, evAnd_cons]
  refine wpR_bind (wpR_imp h.run (fun p M1 h => ?_) fun _ _ h => h)
  obtain ⟨z, rfl, h'⟩ := h.run
  cases z with
  | true => rw [andK_t, ← ev_and]; exact (h'.t rfl).run
  | false => rw [andK_f]; exact h'.f rfl⟩
theorem WE.or1 (h : WE T Γ e sp M K X) : WE T Γ (.orE (.cons e .nil)) sp M K X := ⟨by rw [ev_or, evOr_one]; exact h.run⟩
theorem WE.orc (h : WE T Γ e sp M (fun p M1 => NB p fun z => IFB z (K (.bl true) M1) (WE T Γ (.orE (.cons e2 r)) sp M1 K X)) X) : WE T Γ (.orE (.cons e (.cons e2 r))) sp M K X := ⟨by
  rw [ev_or, evOr_cons]
  refine wpR_bind (wpR_imp h.run (fun p M1 h => ?_) fun _ _ h => h)
  obtain ⟨z, rfl, h'⟩ := h.run
  cases z with
  | true => rw [orK_t]; exact h'.t rfl
  | false => rw [orK_f, ← ev_or]; exact (h'.f rfl).run⟩
theorem WE.ife (h : WE T Γ c sp M (fun p M1 => NB p fun z => IFB z (WE T Γ a sp M1 K X) (WE T Γ b sp M1 K X)) X) : WE T Γ (.ife c a b) sp M K X := ⟨by
  rw [ev_ifE]
  refine wpR_bind (wpR_imp h.run (fun p M1 h => ?_) fun _ _ h => h)
  obtain ⟨z, rfl, h'⟩ := h.run
  cases z with
  | true => rw [ifK_t]; exact (h'.t rfl).run
  | false => rw [ifK_f]; exact (h'.f rfl).run⟩
structure SZ (ps : List PV) (P : Prop) : Prop where
  run : ps.length ≤ sizeLine ∧ P
theorem SZ.of {ps : List PV} {P : Prop} (h : ps.length ≤ sizeLine) (hp : P) : SZ ps P := ⟨h, hp⟩
theorem SZ.lit {ps : List PV} {P : Prop} (h : Nat.ble ps.length 100 = true) (hp : P) : SZ ps P := ⟨Nat.le_trans (Nat.le_of_ble_eq_true h) (by decide), hp⟩
theorem WE.tup (h : WES T Γ es sp M (fun ps M1 => SZ ps (K (.tup ps) M1)) X) : WE T Γ (.tup es) sp M K X := ⟨by
  rw [ev_tup]
  exact wpR_bind (wpR_imp h.run (fun ps M1 h => by rw [if_pos h.run.1]; exact h.run.2) fun _ _ h => h)⟩
theorem WE.lst (h : WES T Γ es sp M (fun ps M1 => SZ ps (K (.lst ps) M1)) X) : WE T Γ (.lst es) sp M K X := ⟨by
  rw [ev_lst]
  exact wpR_bind (wpR_imp h.run (fun ps M1 h => by rw [if_pos h.run.1]; exact h.run.2) fun _ _ h => h)⟩
theorem WE.lstR (h : WES T Γ es sp M (fun ps M1 => SZ ps (K (.ref M1.length) (M1 ++ [some (.lst ps)]))) X) : WE T Γ (.lstR es) sp M K X := ⟨by
  rw [ev_lstR]
  exact wpR_bind (wpR_imp h.run (fun ps M1 h => by rw [if_pos h.run.1]; exact h.run.2) fun _ _ h => h)⟩
theorem WE.idx (h : WE T Γ a sp M (fun p M1 => WE T Γ b sp M1 (fun q M2 => OP (idxP M2 p q) fun r => K r M2) X) X) : WE T Γ (.idx a b) sp M K X := ⟨by
  rw [ev_idx]
  exact wpR_bind (wpR_imp h.run (fun p M1 h => wpR_bind (wpR_imp h.run (fun q M2 h => wpR_ofO h fun _ h => h) fun _ _ h => h)) fun _ _ h => h)⟩
theorem WO.none {KO : Option Int → Store → Prop} (h : KO none M) : WO T Γ none sp M KO X := ⟨by rw [evO_none]; exact h⟩
structure NI (p : PV) (k : Int → Prop) : Prop where
  run : ∃ n, p = .int n ∧ k n
theorem NI.of {n : Int} {k : Int → Prop} (h : k n) : NI (.int n) k := ⟨n, rfl, h⟩
theorem WO.some {KO : Option Int → Store → Prop} (h : WE T Γ c sp M (fun p M1 => NI p fun n => KO (some n) M1) X) : WO T Γ (some c) sp M KO X := ⟨by
  rw [evO_some]
  exact wpR_bind (wpR_imp h.run (fun p M1 h => by obtain ⟨n, rfl, h'⟩ := h.run; exact h') fun _ _ h => h)⟩
theorem WE.slc {lo hi : Option CE} (h : WE T Γ a sp M (fun p M1 => WO T Γ lo sp M1 (fun l M2 => WO T Γ hi sp M2 (fun u M3 => OP (slcP M3 p l u) fun r => K r M3) X) X) X) : WE T Γ (.slc a lo hi) sp M K X := ⟨by
  rw [ev_slc]
  exact wpR_bind (wpR_imp h.run (fun p M1 h => wpR_bind (wpR_imp h.run (fun l M2 h => wpR_bind (wpR_imp h.run (fun u M3 h => wpR_ofO h fun _ h => h) fun _ _ h => h)) fun _ _ h => h)) fun _ _ h => h)⟩
theorem WE.call (h : WES T Γ es sp M (fun ps M1 => WF Γ i ps M1 K X) X) : WE T Γ (.call i es) sp M K X := ⟨by
  rw [ev_call]
  exact wpR_bind (wpR_imp h.run (fun _ _ h => h.run) fun _ _ h => h)⟩
theorem WE.callV {f : Nat} (hf : sp[i]? = some (some (.fn f))) (h : WES T Γ es sp M (fun ps M1 => WF Γ f ps M1 K X) X) : WE T Γ (.callV i es) sp M K X := ⟨by
  rw [ev_callV', hf, callVK_fn]
  exact wpR_bind (wpR_imp h.run (fun _ _ h => h.run) fun _ _ h => h)⟩
theorem WE.callB {bi : BI} (h : WES T Γ es sp M (fun ps M1 => OP (biP bi M1 ps) fun r => K r M1) X) : WE T Γ (.callB bi es) sp M K X := ⟨by
  rw [ev_callB]
  exact wpR_bind (wpR_imp h.run (fun _ _ h => wpR_ofO h fun _ h => h) fun _ _ h => h)⟩
theorem WE.append (h : WE T Γ a sp M (fun p M1 => WE T Γ e sp M1 (fun q M2 => APP M1 M2 p q fun M3 => K .non M3) X) X) (hty : wpR (fun p M1 => tyM M1 p = true) (fun _ _ => True) (ev T Γ a sp M)) : WE T Γ (.meth .append a (.cons e .nil)) sp M K X := ⟨by
  rw [ev_meth]
  refine wpR_bind ?_
  have h1 := h.run
  cases hv : ev T Γ a sp M with
  | ok p M1 =>
    rw [hv] at h1 hty
    have h2 : tyM M1 p = true := hty
    show wpR K X (if tyM M1 p = true then _ else _)
    rw [if_pos h2, evs_cons]
    have h3 := h1.run
    refine wpR_bind (wpR_bind (wpR_imp h3 (fun q M2 h => ?_) fun _ _ h => h))
    rw [evs_nil]
    show wpR K X (bmR .append M2 p [q])
    obtain ⟨n, xs, ys, rfl, h5, h6, h7, h8⟩ := h.run
    rw [bmAppend h6 h7]
    exact h8
  | exc x M1 => rw [hv] at h1; exact h1
  | bad => rw [hv] at h1; exact h1⟩
theorem WE.appv {n : Nat} {ys : List PV} (hv : sp[i]? = some (some (.ref n))) (hy : lstAt M n = some ys) (h : WE T Γ e sp M (fun q M2 => APP M M2 (.ref n) q fun M3 => K .non M3) X) : WE T Γ (.meth .append (.var i) (.cons e .nil)) sp M K X :=
  WE.append (WE.var hv h) (by rw [slot_some hv]; exact mAppend hy)
theorem APP.of {M1 M2 : Store} {n : Nat} {xs ys : List PV} {q : PV} {k : Store → Prop} (h1 : lstAt M1 n = some ys) (h2 : lstAt M2 n = some xs) (hl : xs.length < sizeLine) (h : k (M2.set n (some (.lst (xs ++ [q]))))) : APP M1 M2 (.ref n) q k := ⟨n, xs, ys, rfl, h1, h2, hl, h⟩
theorem APP.last {M0 M1 : Store} {xs ys : List PV} {q : PV} {k : Store → Prop} (he : M0.length = M1.length) (hl : xs.length < sizeLine) (h : k (M1 ++ [some (.lst (xs ++ [q]))])) : APP (M0 ++ [some (.lst ys)]) (M1 ++ [some (.lst xs)]) (.ref M1.length) q k :=
  APP.of (by rw [← he]; exact lstAt_last) lstAt_last hl (by rw [set_last]; exact h)
theorem APP.lst0 {M : Store} {xs : List PV} {q : PV} {k : Store → Prop} (hl : xs.length < sizeLine) (h : k (M ++ [some (.lst (xs ++ [q]))])) : APP (M ++ [some (.lst xs)]) (M ++ [some (.lst xs)]) (.ref M.length) q k := APP.last rfl hl h
theorem WE.frz {n : Nat} {xs : List PV} (h1 : sp[i]? = some (some (.ref n))) (h2 : lstAt M n = some xs) (hk : K (.lst xs) (M.set n none)) : WE T Γ (.frz i) sp M K X := ⟨by rw [ev_frz h1 h2]; exact hk⟩
theorem WE.frzl {M0 : Store} {xs : List PV} (h1 : sp[i]? = some (some (.ref M0.length))) (hk : K (.lst xs) (M0 ++ [none])) : WE T Γ (.frz i) sp (M0 ++ [some (.lst xs)]) K X := WE.frz h1 lstAt_last (by rw [set_last]; exact hk)
theorem WE.sset (h : WE T Γ a sp M (fun p M1 => OP (ssetP M1 p) fun r => K r M1) X) : WE T Γ (.sset a) sp M K X := ⟨by
  rw [ev_sset]
  exact wpR_bind (wpR_imp h.run (fun p M1 h => wpR_ofO h fun _ h => h) fun _ _ h => h)⟩
theorem WE.listR (h : WE T Γ a sp M (fun p M1 => ∃ xs, listIt M1 p = some xs ∧ K (.ref M1.length) (M1 ++ [some (.lst xs)])) X) : WE T Γ (.listR a) sp M K X := ⟨by
  rw [ev_listR]
  refine wpR_bind (wpR_imp h.run (fun p M1 h => ?_) fun _ _ h => h)
  obtain ⟨xs, e, h⟩ := h
  unfold listRK
  rw [e]
  exact h⟩
theorem WE.heard {f : Nat} {hd : HrdC} (hh : T.hrd.find? (fun h => decide (h.f = f)) = some hd) (h : WE T Γ a sp M (fun p M1 => K (.tup [.str hd.told, p]) M1) fun x M1 => HRD T hd x M1 K) : WE T Γ (.heard f a) sp M K X := ⟨by
  rw [show ev T Γ (.heard f a) sp M = heardR T f (ev T Γ a sp M) by simp only [ev]]
  unfold heardR
  rw [hh]
  show wpR K X (heardH T hd (ev T Γ a sp M))
  have h1 := h.run
  cases hv : ev T Γ a sp M with
  | ok p M1 => rw [hv] at h1; exact h1
  | exc x M1 =>
    rw [hv] at h1
    obtain ⟨p, M2, e, h2⟩ := HRD.run h1
    unfold heardH
    dsimp only
    rw [e]
    exact h2
  | bad => rw [hv] at h1; exact h1⟩
theorem HRD.of {h : HrdC} {x : Exc} {p : PV} {M2 : Store} (e : runH T.exm x (List.replicate h.n none) M h.hs = .ret p M2) (hk : K p M2) : HRD T h x M K := ⟨p, M2, e, hk⟩
theorem WES.nil (h : KS [] M) : WES T Γ .nil sp M KS X := ⟨by rw [evs_nil]; exact h⟩
theorem WES.cons (h : WE T Γ e sp M (fun p M1 => WES T Γ r sp M1 (fun ps M2 => KS (p :: ps) M2) X) X) : WES T Γ (.cons e r) sp M KS X := ⟨by
  rw [evs_cons]
  exact wpR_bind (wpR_imp h.run (fun p M1 h => wpR_bind (wpR_imp h.run (fun ps M2 h => h) fun _ _ h => h)) fun _ _ h => h)⟩
structure STAR (p : PV) (k : List PV → Prop) : Prop where
  run : ∃ xs, (p = .tup xs ∨ p = .lst xs) ∧ k xs
theorem STAR.t {xs : List PV} {k : List PV → Prop} (h : k xs) : STAR (.tup xs) k := ⟨xs, .inl rfl, h⟩
theorem STAR.l {xs : List PV} {k : List PV → Prop} (h : k xs) : STAR (.lst xs) k := ⟨xs, .inr rfl, h⟩
theorem WES.star (h : WE T Γ e sp M (fun p M1 => STAR p fun xs => WES T Γ r sp M1 (fun ps M2 => KS (xs ++ ps) M2) X) X) : WES T Γ (.star e r) sp M KS X := ⟨by
  rw [evs_star]
  refine wpR_bind (wpR_imp h.run (fun p M1 h => ?_) fun _ _ h => h)
  obtain ⟨xs, h1, h'⟩ := h.run
  rcases h1 with rfl | rfl
  · rw [starK_tup]; exact wpR_bind (wpR_imp h'.run (fun ps M2 h => h) fun _ _ h => h)
  · rw [starK_lst]; exact wpR_bind (wpR_imp h'.run (fun ps M2 h => h) fun _ _ h => h)⟩
/-! ### instances, methods of lists -/
theorem WE.fld {f : Str} (h : WE T Γ a sp M (fun p M1 => OP (fldP T M1 p f) fun r => K r M1) X) : WE T Γ (.fld a f) sp M K X := ⟨by
  rw [show ev T Γ (.fld a f) sp M = (ev T Γ a sp M).bind fun p M1 => .ofO (fldP T M1 p f) M1 by simp only [ev]]
  exact wpR_bind (wpR_imp h.run (fun p M1 h => wpR_ofO h fun _ h => h) fun _ _ h => h)⟩
theorem WE.newI {n : Nat} (h : WES T Γ es sp M (fun ps M1 => WF Γ (T.fnm.length + j) (.ref M1.length :: ps) (M1 ++ [some (.ins i (List.replicate n none))]) (fun p M2 => p = .non ∧ K (.ref M1.length) M2) X) X) : WE T Γ (.newI i n j es) sp M K X := ⟨by
  rw [show ev T Γ (.newI i n j es) sp M = (evs T Γ es sp M).bind fun ps M1 => newK Γ i n (T.fnm.length + j) ps M1 by simp only [ev]]
  refine wpR_bind (wpR_imp h.run (fun ps M1 h => ?_) fun _ _ h => h)
  unfold newK
  exact wpR_bind (wpR_imp h.run (fun p M2 h => by obtain ⟨rfl, h⟩ := h; exact h) fun _ _ h => h)⟩
theorem WE.mcall {m : Str} (h : WE T Γ a sp M (fun p M1 => ∃ f, methP T M1 p m = some f ∧ WES T Γ es sp M1 (fun ps M2 => WF Γ f (p :: ps) M2 K X) X) X) : WE T Γ (.mcall a m es) sp M K X := ⟨by
  rw [show ev T Γ (.mcall a m es) sp M = (ev T Γ a sp M).bind fun p M1 => match methP T M1 p m with
    | some f => (evs T Γ es sp M1).bind fun ps M2 => Γ f (p :: ps) M2
    | none => .bad by first | (simp only [ev]; done) | (simp only [ev]; rfl)]
  refine wpR_bind (wpR_imp h.run (fun p M1 h => ?_) fun _ _ h => h)
  obtain ⟨f, e, h⟩ := h
  rw [e]
  exact wpR_bind (wpR_imp h.run (fun ps M2 h => h.run) fun _ _ h => h)⟩
/-- a method of a list is done -/
structure BMX (m : BM) (M : Store) (p : PV) (ps : List PV) (k : PV → Store → Prop) : Prop where
  run : ∃ r M3, bmP m M p ps = some (r, M3) ∧ k r M3
theorem WE.meth {m : BM} (h : WE T Γ a sp M (fun p M1 => tyM M1 p = true ∧ WES T Γ es sp M1 (fun ps M2 => BMX m M2 p ps fun r M3 => K r M3) X) X) : WE T Γ (.meth m a es) sp M K X := ⟨by
  rw [ev_meth]
  refine wpR_bind (wpR_imp h.run (fun p M1 h => ?_) fun _ _ h => h)
  rw [if_pos h.1]
  refine wpR_bind (wpR_imp h.2.run (fun ps M2 h => ?_) fun _ _ h => h)
  obtain ⟨r, M3, e, h⟩ := h.run
  unfold bmR
  rw [e]
  exact h⟩
theorem BMX.app {n : Nat} {xs : List PV} {q : PV} {k : PV → Store → Prop} (hl : lstAt M n = some xs) (hz : xs.length < sizeLine) (h : k .non (M.set n (some (.lst (xs ++ [q]))))) : BMX .append M (.ref n) [q] k :=
  ⟨_, _, by simp only [bmP, appP, hl]; rw [if_pos hz], h⟩
theorem BMX.pop {n : Nat} {xs : List PV} {q : PV} {k : PV → Store → Prop} (hl : lstAt M n = some (xs ++ [q])) (h : k q (M.set n (some (.lst xs)))) : BMX .pop M (.ref n) [] k :=
  ⟨_, _, by simp only [bmP, popP, hl, List.length_append, List.length_cons, List.length_nil]; rw [show xs.length + (0 + 1) - 1 = xs.length by omega, List.getElem?_append_right (Nat.le_refl _), Nat.sub_self]; simp only [List.getElem?_cons_zero, List.dropLast_concat], h⟩
theorem BMX.popAt {n : Nat} {xs : List PV} {q : PV} {m : Nat} {k : PV → Store → Prop} (hl : lstAt M n = some xs) (hq : xs[m]? = some q) (h : k q (M.set n (some (.lst (xs.eraseIdx m))))) : BMX .pop M (.ref n) [.int (m : Int)] k :=
  ⟨_, _, by simp only [bmP, popP, hl, Int.toNat_natCast, hq]; rw [if_pos (Int.natCast_nonneg m)], h⟩
theorem BMX.ext {n : Nat} {xs ys : List PV} {q : PV} {k : PV → Store → Prop} (hl : lstAt M n = some xs) (hy : itemsL M q = some ys) (hz : xs.length + ys.length ≤ sizeLine) (h : k .non (M.set n (some (.lst (xs ++ ys))))) : BMX .extend M (.ref n) [q] k :=
  ⟨_, _, by simp only [bmP, extP, hl, hy]; rw [if_pos hz], h⟩
theorem BMX.ins {n : Nat} {xs : List PV} {q : PV} {m : Nat} {k : PV → Store → Prop} (hl : lstAt M n = some xs) (hm : m ≤ xs.length) (hz : xs.length < sizeLine) (h : k .non (M.set n (some (.lst (xs.take m ++ [q] ++ xs.drop m))))) : BMX .insert M (.ref n) [.int (m : Int), q] k :=
  ⟨_, _, by simp only [bmP, insP, hl, Int.toNat_natCast]; rw [if_pos ⟨Int.natCast_nonneg m, by omega, hz⟩], h⟩
/-! ### what is walked -/
variable {KI : ItV → Store → Prop}
theorem WI.seq (h : WE T Γ e sp M (fun p M1 => ITS M1 p fun J => KI J M1) X) : WI T Γ (.seq e) sp M KI X := ⟨by
  rw [evI_seq]
  refine wpR_bind (wpR_imp h.run (fun p M1 h => ?_) fun _ _ h => h)
  obtain ⟨J, e, h⟩ := h.run
  rw [e]
  exact h⟩
theorem ITS.t {xs : List PV} {k : ItV → Prop} (h : k ⟨xs, []⟩) : ITS M (.tup xs) k := ⟨_, rfl, h⟩
theorem ITS.l {xs : List PV} {k : ItV → Prop} (h : k ⟨xs, []⟩) : ITS M (.lst xs) k := ⟨_, rfl, h⟩
theorem ITS.re {n : Nat} {xs : List PV} {k : ItV → Prop} (hl : lstAt M n = some xs) (h : k ⟨xs, [(n, xs)]⟩) : ITS M (.ref n) k := ⟨_, by simp only [seqIt, hl], h⟩
theorem ITS.rl {xs : List PV} {k : ItV → Prop} (h : k ⟨xs, [(M.length, xs)]⟩) : ITS (M ++ [some (.lst xs)]) (.ref M.length) k := .re lstAt_last h
structure RNG (p q : PV) (k : ItV → Prop) : Prop where
  run : ∃ i j : Int, p = .int i ∧ q = .int j ∧ -1000000 ≤ i ∧ i ≤ 1000000 ∧ -1000000 ≤ j ∧ j ≤ 1000000 ∧ k ⟨(List.range (j - i).toNat).map fun m : Nat => .int (i + (m : Int)), []⟩
theorem RNG.of {i j : Int} {k : ItV → Prop} (h1 : -1000000 ≤ i ∧ i ≤ 1000000 ∧ -1000000 ≤ j ∧ j ≤ 1000000) (h : k ⟨(List.range (j - i).toNat).map fun m : Nat => .int (i + (m : Int)), []⟩) : RNG (.int i) (.int j) k := ⟨i, j, rfl, rfl, h1.1, h1.2.1, h1.2.2.1, h1.2.2.2, h⟩
theorem RNG.nat {n : Nat} {k : ItV → Prop} (h1 : n ≤ 1000000) (h : k ⟨(List.range n).map fun m : Nat => .int (m : Int), []⟩) : RNG (.int 0) (.int (n : Int)) k := .of (by omega) (by
  have e : ((n : Int) - 0).toNat = n := by omega
  rw [e]
  have e2 : (fun m : Nat => PV.int (0 + (m : Int))) = fun m : Nat => .int (m : Int) := funext fun m => by rw [Int.zero_add]
  rw [e2]
  exact h)
theorem rngIt_RNG {i j : Int} (h1 : -1000000 ≤ i) (h2 : i ≤ 1000000) (h3 : -1000000 ≤ j) (h4 : j ≤ 1000000) : rngIt i j = some ⟨(List.range (j - i).toNat).map fun m : Nat => .int (i + (m : Int)), []⟩ := by
  unfold rngIt
  have hz : 10000000 ≤ sizeLine := by decide
  rw [if_pos (by simp only [rngOk, Bool.and_eq_true, decide_eq_true_eq]; omega)]
  unfold rngL
  simp
theorem WI.rng1 (h : WE T Γ a sp M (fun p M1 => RNG (.int 0) p fun J => KI J M1) X) : WI T Γ (.rng1 a) sp M KI X := ⟨by
  rw [evI_rng1]
  refine wpR_bind (wpR_imp h.run (fun p M1 h => ?_) fun _ _ h => h)
  obtain ⟨i, j, e1, rfl, h1, h2, h3, h4, h⟩ := h.run
  cases e1
  rw [rng1K_int, rngIt_RNG h1 h2 h3 h4]
  exact h⟩
theorem WI.rng2 (h : WE T Γ a sp M (fun p M1 => WE T Γ b sp M1 (fun q M2 => RNG p q fun J => KI J M2) X) X) : WI T Γ (.rng2 a b) sp M KI X := ⟨by
  rw [evI_rng2]
  refine wpR_bind (wpR_imp h.run (fun p M1 h => wpR_bind (wpR_imp h.run (fun q M2 h => ?_) fun _ _ h => h)) fun _ _ h => h)
  obtain ⟨i, j, rfl, rfl, h1, h2, h3, h4, h⟩ := h.run
  rw [rng2K_int, rngIt_RNG h1 h2 h3 h4]
  exact h⟩
structure RND (p q r : PV) (k : ItV → Prop) : Prop where
  run : ∃ i j : Int, p = .int i ∧ q = .int j ∧ r = .int (-1) ∧ -1000000 ≤ i ∧ i ≤ 1000000 ∧ -1000000 ≤ j ∧ j ≤ 1000000 ∧ k ⟨(List.range (i - j).toNat).map fun m : Nat => .int (i - (m : Int)), []⟩
theorem RND.of {i j : Int} {k : ItV → Prop} (h1 : -1000000 ≤ i ∧ i ≤ 1000000 ∧ -1000000 ≤ j ∧ j ≤ 1000000) (h : k ⟨(List.range (i - j).toNat).map fun m : Nat => .int (i - (m : Int)), []⟩) : RND (.int i) (.int j) (.int (-1)) k := ⟨i, j, rfl, rfl, rfl, h1.1, h1.2.1, h1.2.2.1, h1.2.2.2, h⟩
theorem WI.rng3 (h : WE T Γ a sp M (fun p M1 => WE T Γ b sp M1 (fun q M2 => WE T Γ c sp M2 (fun r M3 => RND p q r fun J => KI J M3) X) X) X) : WI T Γ (.rng3 a b c) sp M KI X := ⟨by
  rw [evI_rng3]
  refine wpR_bind (wpR_imp h.run (fun p M1 h => wpR_bind (wpR_imp h.run (fun q M2 h => wpR_bind (wpR_imp h.run (fun r M3 h => ?_) fun _ _ h => h)) fun _ _ h => h)) fun _ _ h => h)
  obtain ⟨i, j, rfl, rfl, rfl, h1, h2, h3, h4, h⟩ := h.run
  have hz : 10000000 ≤ sizeLine := by decide
  have e : rngIt3 i j (-1) = some ⟨(List.range (i - j).toNat).map fun m : Nat => .int (i - (m : Int)), []⟩ := by
    unfold rngIt3
    rw [if_pos (by simp [rngOk]; omega)]
    unfold rngL
    have e3 : (fun k : Nat => PV.int (i + (k : Int) * -1)) = fun m : Nat => .int (i - (m : Int)) := funext fun m => by rw [show i + (m : Int) * -1 = i - m by omega]
    rw [e3]
  rw [rng3K_int, e]
  exact h⟩
theorem WI.enum (h : WE T Γ e sp M (fun p M1 => ITS M1 p fun J => KI ⟨enumL J.items, J.gd⟩ M1) X) : WI T Γ (.enum e) sp M KI X := ⟨by
  rw [evI_enum]
  refine wpR_bind (wpR_imp h.run (fun p M1 h => ?_) fun _ _ h => h)
  obtain ⟨J, e, h⟩ := h.run
  rw [e, enK_some]
  exact h⟩
theorem WI.zip (h : WE T Γ a sp M (fun p M1 => WE T Γ b sp M1 (fun q M2 => ITS M2 p fun J => ITS M2 q fun J' => KI ⟨zipL J.items J'.items, J.gd ++ J'.gd⟩ M2) X) X) : WI T Γ (.zip a b) sp M KI X := ⟨by
  rw [evI_zip]
  refine wpR_bind (wpR_imp h.run (fun p M1 h => wpR_bind (wpR_imp h.run (fun q M2 h => ?_) fun _ _ h => h)) fun _ _ h => h)
  obtain ⟨J, e1, h⟩ := h.run
  obtain ⟨J', e2, h⟩ := h.run
  rw [e1, e2, ziK_some]
  exact h⟩
theorem WI.zip3 (h : WE T Γ a sp M (fun p M1 => WE T Γ b sp M1 (fun q M2 => WE T Γ c sp M2 (fun r M3 => ITS M3 p fun J => ITS M3 q fun J' => ITS M3 r fun J'' => KI ⟨zipL3 J.items J'.items J''.items, J.gd ++ (J'.gd ++ J''.gd)⟩ M3) X) X) X) : WI T Γ (.zip3 a b c) sp M KI X := ⟨by
  rw [evI_zip3]
  refine wpR_bind (wpR_imp h.run (fun p M1 h => wpR_bind (wpR_imp h.run (fun q M2 h => wpR_bind (wpR_imp h.run (fun r M3 h => ?_) fun _ _ h => h)) fun _ _ h => h)) fun _ _ h => h)
  obtain ⟨J, e1, h⟩ := h.run
  obtain ⟨J', e2, h⟩ := h.run
  obtain ⟨J'', e3, h⟩ := h.run
  rw [e1, e2, e3, ziK3_some]
  exact h⟩
theorem WE.index (h : WE T Γ a sp M (fun p M1 => (itemsL M1 p).isSome = true ∧ WE T Γ b sp M1 (fun q M2 => OP (indexP M2 p q) fun r => K r M2) X) X) : WE T Γ (.index a b) sp M K X := ⟨by
  rw [ev_index]
  refine wpR_bind (wpR_imp h.run (fun p M1 h => ?_) fun _ _ h => h)
  rw [if_pos h.1]
  exact wpR_bind (wpR_imp h.2.run (fun q M2 h => wpR_ofO h fun _ h => h) fun _ _ h => h)⟩
theorem WE.rev (h : WE T Γ a sp M (fun p M1 => OP (revP M1 p) fun r => K r M1) X) : WE T Γ (.rev a) sp M K X := ⟨by
  rw [ev_rev]
  exact wpR_bind (wpR_imp h.run (fun p M1 h => wpR_ofO h fun _ h => h) fun _ _ h => h)⟩
theorem WE.srt (h : WE T Γ a sp M (fun p M1 => OP (srtP M1 p) fun r => K r M1) X) : WE T Γ (.srt a) sp M K X := ⟨by
  rw [ev_srt]
  exact wpR_bind (wpR_imp h.run (fun p M1 h => wpR_ofO h fun _ h => h) fun _ _ h => h)⟩
/-! ### comprehensions -/
variable {own : List (Str × Nat)} {tg : CT} {it : CI} {cd : Option CE} {elt cc : CE} {J : ItV} {gd : List (Nat × List PV)}
theorem WE.comp (h : WI T Γ it sp M (fun J M1 => CMP T Γ own tg cd elt sp J M1 (fun ys M2 => K (.lst ys) M2) X) X) : WE T Γ (.comp own tg it cd elt) sp M K X := ⟨by
  rw [ev_comp]
  exact wpR_bind (wpR_imp h.run (fun J M1 h => wpR_bind (wpR_imp h.run (fun ys M2 h => h) fun _ _ h => h)) fun _ _ h => h)⟩
theorem step_wp {x : PV} {KK : Option PV → Store → Prop} {M : Store} (h : WIPE own sp fun sp0 => WASG tg x sp0 fun sp1 => WE T Γ elt sp1 M (fun y M2 => KK (some y) M2) NoX) : wpR KK NoX (stepC tg (own.map (·.2)) (evC T Γ none) (ev T Γ elt) sp x M) := by
  obtain ⟨sp1, e, h⟩ := h.run.run
  unfold stepC
  rw [e]
  simp only [evC_none]
  exact wpR_bind (wpR_imp h.run (fun _ _ h => h) fun _ _ h => h)
theorem step_wpc {x : PV} {KK : Option PV → Store → Prop} {M : Store} (h : WIPE own sp fun sp0 => WASG tg x sp0 fun sp1 => WE T Γ cc sp1 M (fun p M1 => NB p fun z => IFB z (WE T Γ elt sp1 M1 (fun y M2 => KK (some y) M2) NoX) (KK none M1)) NoX) : wpR KK NoX (stepC tg (own.map (·.2)) (evC T Γ (some cc)) (ev T Γ elt) sp x M) := by
  obtain ⟨sp1, e, h⟩ := h.run.run
  unfold stepC
  rw [e]
  simp only [evC_some]
  have h1 := h.run
  cases hv : ev T Γ cc sp1 M with
  | ok p M1 =>
    rw [hv] at h1
    obtain ⟨z, rfl, h2⟩ := NB.run h1
    rw [evTr_bl]
    cases z with
    | true => exact wpR_bind (wpR_imp (h2.t rfl).run (fun _ _ h => h) fun _ _ h => h)
    | false => exact h2.f rfl
  | exc x M1 => rw [hv] at h1; exact h1.elim
  | bad => rw [hv] at h1; exact h1.elim
theorem compR_mapG {α : Type} {step : PV → Store → Res (Option PV)} {M : Store} (hg : gdOk M gd) (e : α → PV) (f : α → PV) : ∀ {items : List α}, (∀ x ∈ items, step (e x) M = .ok (some (f x)) M) → compR gd step (items.map e) M = .ok (items.map f) M
  | [], _ => by rw [List.map_nil]; unfold compR gdIf; rw [if_pos hg]; rfl
  | x :: xs, h => by
    rw [List.map_cons]
    unfold compR gdIf
    rw [if_pos hg, h x List.mem_cons_self]
    simp only
    rw [compR_mapG hg e f fun y hy => h y (List.mem_cons_of_mem _ hy)]
    rfl
theorem compR_filG {α : Type} {step : PV → Store → Res (Option PV)} {M : Store} (hg : gdOk M gd) (e : α → PV) (p : α → Bool) (f : α → PV) : ∀ {items : List α}, (∀ x ∈ items, step (e x) M = .ok (if p x = true then some (f x) else none) M) → compR gd step (items.map e) M = .ok ((items.filter p).map f) M
  | [], _ => by rw [List.map_nil]; unfold compR gdIf; rw [if_pos hg]; rfl
  | x :: xs, h => by
    rw [List.map_cons]
    unfold compR gdIf
    rw [if_pos hg, h x List.mem_cons_self]
    simp only
    rw [compR_filG hg e p f fun y hy => h y (List.mem_cons_of_mem _ hy)]
    cases hp : p x <;> simp [List.filter_cons, hp]
theorem wpR_eq {α : Type} {a : α} {r : Res α} (h : wpR (fun y M2 => y = a ∧ M2 = M) NoX r) : r = .ok a M := by
  cases r with
  | ok y M2 => obtain ⟨rfl, rfl⟩ := h; rfl
  | exc x M2 => exact h.elim
  | bad => exact h.elim
theorem gd0 (M : Store) : gdOk M [] := (gdOk_nil M).mpr trivial
theorem gd1 {xs : List PV} : gdOk (M ++ [some (.lst xs)]) [(M.length, xs)] := fun p hp => by
  simp only [List.mem_singleton] at hp
  subst hp
  exact lstAt_last
variable {α : Type} {items : List α}
/-- a block that tells f of each -/
theorem CMP.map (f : α → PV) (eI : α → PV) (hg : gdOk M gd) (h : ∀ x ∈ items, WIPE own sp fun sp0 => WASG tg (eI x) sp0 fun sp1 => WE T Γ elt sp1 M (fun y M2 => y = f x ∧ M2 = M) NoX) (hk : KS (items.map f) M) : CMP T Γ own tg none elt sp ⟨items.map eI, gd⟩ M KS X := ⟨by
  rw [compR_mapG hg eI f fun x hx => wpR_eq (a := some (f x)) (wpR_imp (step_wp (KK := fun o M2 => o = some (f x) ∧ M2 = M) (by
    have h1 := h x hx
    obtain ⟨sp1, e, h2⟩ := h1.run.run
    exact ⟨sp1, e, ⟨wpR_imp h2.run (fun y M2 h => ⟨by rw [h.1], h.2⟩) fun _ _ h => h⟩⟩)) (fun _ _ h => h) fun _ _ h => h)]
  exact hk⟩
theorem CMP.mapL {xs : List PV} (f : PV → PV) (hg : gdOk M gd) (h : ∀ x ∈ xs, WIPE own sp fun sp0 => WASG tg x sp0 fun sp1 => WE T Γ elt sp1 M (fun y M2 => y = f x ∧ M2 = M) NoX) (hk : KS (xs.map f) M) : CMP T Γ own tg none elt sp ⟨xs, gd⟩ M KS X := by
  have := CMP.map (T := T) (Γ := Γ) (X := X) (gd := gd) (own := own) (tg := tg) (elt := elt) (sp := sp) (KS := KS) (items := xs) f (fun x : PV => x) hg h hk
  rwa [List.map_id''] at this
  exact fun _ => rfl
/-- a block that tells f of those with p -/
theorem CMP.fil (p : α → Bool) (f : α → PV) (eI : α → PV) (hg : gdOk M gd) (h : ∀ x ∈ items, WIPE own sp fun sp0 => WASG tg (eI x) sp0 fun sp1 => WE T Γ cc sp1 M (fun q M1 => q = .bl (p x) ∧ M1 = M ∧ (p x = true → WE T Γ elt sp1 M (fun y M2 => y = f x ∧ M2 = M) NoX)) NoX) (hk : KS ((items.filter p).map f) M) : CMP T Γ own tg (some cc) elt sp ⟨items.map eI, gd⟩ M KS X := ⟨by
  rw [compR_filG hg eI p f fun x hx => wpR_eq (a := if p x = true then some (f x) else none) (wpR_imp (step_wpc (KK := fun o M2 => o = (if p x = true then some (f x) else none) ∧ M2 = M) (by
    have h1 := h x hx
    obtain ⟨sp1, e, h2⟩ := h1.run.run
    refine ⟨sp1, e, ⟨wpR_imp h2.run (fun q M2 h => ?_) fun _ _ h => h⟩⟩
    obtain ⟨rfl, rfl, h3⟩ := h
    refine NB.of ⟨fun hp => ?_, fun hp => ?_⟩
    · exact ⟨wpR_imp (h3 hp).run (fun y M2 h => ⟨by rw [if_pos hp, h.1], h.2⟩) fun _ _ h => h⟩
    · exact ⟨by rw [hp]; rfl, rfl⟩)) (fun _ _ h => h) fun _ _ h => h)]
  exact hk⟩
/-- turns that change the store -/
theorem CMP.st (P : Store → Prop) (R : α → PV → Prop) (eI : α → PV) (hP : P M) (h : ∀ x ∈ items, ∀ M, P M → WIPE own sp fun sp0 => WASG tg (eI x) sp0 fun sp1 => WE T Γ elt sp1 M (fun y M2 => P M2 ∧ R x y) NoX)
    (hk : ∀ ys M2, P M2 → ys.length = items.length → (∀ (i : Nat) (x : α) (y : PV), items[i]? = some x → ys[i]? = some y → R x y) → KS ys M2) : CMP T Γ own tg none elt sp ⟨items.map eI, []⟩ M KS X := ⟨by
  obtain ⟨ys, M', e1, h1, h2, h3⟩ := compR_st (step := stepC tg (own.map (·.2)) (evC T Γ none) (ev T Γ elt) sp) eI P R hP fun x hx M hM => by
    have h4 := step_wp (KK := fun o M2 => ∃ y, o = some y ∧ P M2 ∧ R x y) (own := own) (sp := sp) (tg := tg) (elt := elt) (T := T) (Γ := Γ) (x := eI x) (M := M) (by
      obtain ⟨sp1, e, h2⟩ := (h x hx M hM).run.run
      exact ⟨sp1, e, ⟨wpR_imp h2.run (fun y M2 h => ⟨y, rfl, h⟩) fun _ _ h => h⟩⟩)
    revert h4
    cases stepC tg (own.map (·.2)) (evC T Γ none) (ev T Γ elt) sp (eI x) M with
    | ok o M2 => rintro ⟨y, rfl, h5, h6⟩; exact ⟨y, M2, rfl, h5, h6⟩
    | exc x M2 => exact fun h => h.elim
    | bad => exact fun h => h.elim
  rw [e1]
  exact hk ys M' h1 h2 h3⟩
end
/-! ### calls -/
section
variable {Γ : Fns} {f : Nat} {ps : List PV} {M : Store} {K : PV → Store → Prop} {X : Exc → Store → Prop}
theorem WF.ok {p : PV} {M' : Store} (h : Γ f ps M = .ok p M') (hk : K p M') : WF Γ f ps M K X := ⟨by rw [h]; exact hk⟩
theorem WF.exc {x : Exc} {M' : Store} (h : Γ f ps M = .exc x M') (hk : X x M') : WF Γ f ps M K X := ⟨by rw [h]; exact hk⟩
theorem WF.ex {α : Type} {v : α → PV} {P : α → Store → Prop} (h : ∃ a M', Γ f ps M = .ok (v a) M' ∧ P a M') (hk : ∀ a M', P a M' → K (v a) M') : WF Γ f ps M K X := by
  obtain ⟨a, M', e, hp⟩ := h
  exact .ok e (hk a M' hp)
theorem WF.imp {K' : PV → Store → Prop} {X' : Exc → Store → Prop} (h : WF Γ f ps M K' X') (hk : ∀ p M', K' p M' → K p M') (hx : ∀ x M', X' x M' → X x M') : WF Γ f ps M K X := ⟨wpR_imp h.run hk hx⟩
theorem WF.eq {p : PV} {M' : Store} (h : WF Γ f ps M (fun q M2 => q = p ∧ M2 = M') NoX) : Γ f ps M = .ok p M' := wpR_eq h.run
theorem WF.eqx {x : Exc} {M' : Store} (h : WF Γ f ps M (fun _ _ => False) fun y M2 => y = x ∧ M2 = M') : Γ f ps M = .exc x M' := by
  have h1 := h.run
  cases hv : Γ f ps M with
  | ok p M2 => rw [hv] at h1; exact h1.elim
  | exc y M2 => rw [hv] at h1; obtain ⟨rfl, rfl⟩ := h1; rfl
  | bad => rw [hv] at h1; exact h1.elim
theorem WF.run_ {T : Tab} {ents : List DEnt} {k : Nat} {ar n : Nat} {nm : List Str} {body : CSs} (h : codesOf ents f = some ⟨ar, nm, body⟩) (h1 : ps.length = ar) (h2 : nm.length = ar + n)
    (hw : WS T (Fn T (codesOf ents) k) body (ps.map some ++ List.replicate n none) M (fun _ M' => K .non (gcM M.length M' [])) (fun p M' => K p (gcM M.length M' [p])) NoS NoS (fun x _ M' => X x (gcM M.length M' x.fs))) : WF (Fn T (codesOf ents) (k + 1)) f ps M K X := ⟨by
  rw [Fn_run h h1 h2]
  have hr := hw.run
  revert hr
  cases exs T (Fn T (codesOf ents) k) body (ps.map some ++ List.replicate n none) M with
  | nx sp M' => exact fun h => h
  | ret p M' => exact fun h => h
  | brk sp M' => exact fun h => h.elim
  | cnt sp M' => exact fun h => h.elim
  | exc x sp M' => exact fun h => h
  | bad => exact fun h => h⟩
end
/-! ### statements -/
section
variable {T : Tab} {Γ : Fns} {sp : Sl} {M : Store} {a b c e : CE} {es : CEs} {i j : Nat} {s : CS} {ss sb sc : CSs} {t : CT} {ts : List CT}
  {nx : Sl → Store → Prop} {rt : PV → Store → Prop} {lp lb : Sl → Store → Prop} {X : Exc → Sl → Store → Prop}
theorem wpS_ofR {α : Type} {r : Res α} {k : α → Store → SRes} (h : wpR (fun p M1 => wpS nx rt lp lb X (k p M1)) (fun x M1 => X x sp M1) r) : wpS nx rt lp lb X (SRes.ofR r sp k) := by
  cases r with
  | ok a M => exact h
  | exc x M => exact h
  | bad => exact h
theorem wpS_imp {nx' : Sl → Store → Prop} {rt' : PV → Store → Prop} {lp' lb' : Sl → Store → Prop} {X' : Exc → Sl → Store → Prop} {r : SRes} (h : wpS nx rt lp lb X r) (h1 : ∀ sp M, nx sp M → nx' sp M) (h2 : ∀ p M, rt p M → rt' p M) (h3 : ∀ sp M, lp sp M → lp' sp M) (h4 : ∀ sp M, lb sp M → lb' sp M) (h5 : ∀ x sp M, X x sp M → X' x sp M) : wpS nx' rt' lp' lb' X' r := by
  cases r with
  | nx sp M => exact h1 _ _ h
  | ret p M => exact h2 _ _ h
  | brk sp M => exact h4 _ _ h
  | cnt sp M => exact h3 _ _ h
  | exc x sp M => exact h5 _ _ _ h
  | bad => exact h
theorem WS.nil (h : nx sp M) : WS T Γ .nil sp M nx rt lp lb X := ⟨by rw [exs_nil]; exact h⟩
theorem WS.cons (h : W1 T Γ s sp M (fun sp1 M1 => WS T Γ ss sp1 M1 nx rt lp lb X) rt lp lb X) : WS T Γ (.cons s ss) sp M nx rt lp lb X := ⟨by
  rw [exs_cons]
  have h1 := h.run
  cases hv : ex T Γ s sp M with
  | nx sp1 M1 => rw [hv] at h1; exact WS.run h1
  | ret p M => rw [hv] at h1; exact h1
  | brk sp M => rw [hv] at h1; exact h1
  | cnt sp M => rw [hv] at h1; exact h1
  | exc x sp M => rw [hv] at h1; exact h1
  | bad => rw [hv] at h1; exact h1⟩
theorem W1.asgn (h : WE T Γ e sp M (fun p M1 => WSET sp i (some p) fun sp1 => nx sp1 M1) fun x M1 => X x sp M1) : W1 T Γ (.asg (.name i) e) sp M nx rt lp lb X := ⟨by
  rw [ex_asg]
  refine wpS_ofR (wpR_imp h.run (fun p M1 h => ?_) fun _ _ h => h)
  rw [asgK_eq_of h.run.1]
  exact h.run.2⟩
where
  asgK_eq_of {i : Nat} {sp : Sl} {p : PV} {M : Store} (h : i < sp.length) : asgK (.name i) sp p M = .nx (sp.set i (some p)) M := by
    simp only [asgK, asg]
    rw [if_pos h]
theorem W1.asgt (h : WE T Γ e sp M (fun p M1 => WASG (.tup ts) p sp fun sp1 => nx sp1 M1) fun x M1 => X x sp M1) : W1 T Γ (.asg (.tup ts) e) sp M nx rt lp lb X := ⟨by
  rw [ex_asg]
  refine wpS_ofR (wpR_imp h.run (fun p M1 h => ?_) fun _ _ h => h)
  obtain ⟨sp1, e, h⟩ := h.run
  unfold asgK
  rw [e]
  exact h⟩
theorem W1.asgc {own : List (Str × Nat)} {tg : CT} {it : CI} {cd : Option CE} {elt : CE} (h : WE T Γ (.comp own tg it cd elt) sp M (fun p M1 => WSET sp i (some p) fun sp1 => nx sp1 M1) fun x M1 => X x sp M1) : W1 T Γ (.asgC i own tg it cd elt) sp M nx rt lp lb X := ⟨by
  rw [ex_asgC]
  refine wpS_ofR (wpR_imp h.run (fun p M1 h => ?_) fun _ _ h => h)
  rw [W1.asgn.asgK_eq_of h.run.1]
  exact h.run.2⟩
theorem W1.par {is : List Nat} (h : WES T Γ es sp M (fun ps M1 => WASGS (is.map .name) ps sp fun sp1 => nx sp1 M1) fun x M1 => X x sp M1) : W1 T Γ (.par is es) sp M nx rt lp lb X := ⟨by
  rw [ex_par]
  refine wpS_ofR (wpR_imp h.run (fun p M1 h => ?_) fun _ _ h => h)
  obtain ⟨sp1, e, h⟩ := h.run
  unfold parK
  rw [e]
  exact h⟩
theorem W1.aug {op : Operator} {p : PV} (hp : sp[i]? = some (some p)) (h : WE T Γ e sp M (fun q M1 => OP (augP op M1 p q) fun r => WSET sp i (some r) fun sp1 => nx sp1 M1) fun x M1 => X x sp M1) : W1 T Γ (.aug i op e) sp M nx rt lp lb X := ⟨by
  rw [ex_aug, hp, augV_some]
  refine wpS_ofR (wpR_imp h.run (fun q M1 h => ?_) fun _ _ h => h)
  obtain ⟨r, e, h⟩ := h.run
  unfold augK
  rw [e]
  exact h.run.2⟩
theorem W1.asgI (h : WE T Γ e sp M (fun v M1 => WE T Γ a sp M1 (fun p M2 => WE T Γ b sp M2 (fun q M3 => ∃ M4, setP M3 p q v = some M4 ∧ nx sp M4) fun x M1 => X x sp M1) fun x M1 => X x sp M1) fun x M1 => X x sp M1) : W1 T Γ (.asgI a b e) sp M nx rt lp lb X := ⟨by
  rw [ex_asgI]
  refine wpS_ofR (wpR_imp h.run (fun v M1 h => wpS_ofR (wpR_imp h.run (fun p M2 h => wpS_ofR (wpR_imp h.run (fun q M3 h => ?_) fun _ _ h => h)) fun _ _ h => h)) fun _ _ h => h)
  obtain ⟨M4, e, h⟩ := h
  unfold setK
  rw [e]
  exact h⟩
theorem W1.expr (h : WE T Γ e sp M (fun _ M1 => nx sp M1) fun x M1 => X x sp M1) : W1 T Γ (.expr e) sp M nx rt lp lb X := ⟨by
  rw [ex_expr]
  exact wpS_ofR (wpR_imp h.run (fun _ _ h => h) fun _ _ h => h)⟩
theorem W1.ret (h : WE T Γ e sp M (fun p M1 => rt p M1) fun x M1 => X x sp M1) : W1 T Γ (.ret e) sp M nx rt lp lb X := ⟨by
  rw [ex_ret]
  exact wpS_ofR (wpR_imp h.run (fun _ _ h => h) fun _ _ h => h)⟩
theorem W1.retN (h : rt .non M) : W1 T Γ .retN sp M nx rt lp lb X := ⟨by rw [ex_retN]; exact h⟩
theorem W1.ite (h : WE T Γ c sp M (fun p M1 => NB p fun z => IFB z (WS T Γ sb sp M1 nx rt lp lb X) (WS T Γ sc sp M1 nx rt lp lb X)) fun x M1 => X x sp M1) : W1 T Γ (.ite c sb sc) sp M nx rt lp lb X := ⟨by
  rw [ex_ite]
  have h1 := h.run
  cases hv : ev T Γ c sp M with
  | ok p M1 =>
    rw [hv] at h1
    obtain ⟨z, rfl, h2⟩ := NB.run h1
    rw [evTr_bl, ofR_ok]
    cases z with
    | true => rw [if_pos rfl]; exact (h2.t rfl).run
    | false => rw [if_neg (by simp)]; exact (h2.f rfl).run
  | exc x M1 => rw [hv] at h1; rw [evTr_exc, ofR_exc]; exact h1
  | bad => rw [hv] at h1; exact h1.elim⟩
/-- a field is set -/
structure SETF (T : Tab) (M : Store) (p : PV) (f : Str) (v : PV) (k : Store → Prop) : Prop where
  run : ∃ M3, setFP T M p f v = some M3 ∧ k M3
theorem wpS_setFK {f : Str} {v p : PV} (h : SETF T M p f v fun M3 => nx sp M3) : wpS nx rt lp lb X (setFK T sp v p f M) := by
  obtain ⟨M3, e, h⟩ := h.run
  unfold setFK
  rw [e]
  exact h
theorem W1.setF {f : Str} (h : WE T Γ e sp M (fun v M1 => WE T Γ a sp M1 (fun p M2 => SETF T M2 p f v fun M3 => nx sp M3) fun x M1 => X x sp M1) fun x M1 => X x sp M1) : W1 T Γ (.setF a f e) sp M nx rt lp lb X := ⟨by
  rw [show ex T Γ (.setF a f e) sp M = SRes.ofR (ev T Γ e sp M) sp fun v M1 => .ofR (ev T Γ a sp M1) sp fun p M2 => setFK T sp v p f M2 by simp only [ex]]
  exact wpS_ofR (wpR_imp h.run (fun v M1 h => wpS_ofR (wpR_imp h.run (fun p M2 h => wpS_setFK h) fun _ _ h => h)) fun _ _ h => h)⟩
/-- targets of any kind, one by one -/
structure WU (T : Tab) (Γ : Fns) (us : List UT) (ps : List PV) (sp : Sl) (M : Store) (nx : Sl → Store → Prop) (X : Exc → Sl → Store → Prop) : Prop where
  run : wpS nx (fun _ _ => False) (fun _ _ => False) (fun _ _ => False) X (asgUs T Γ us ps sp M)
theorem wpS_seqU {r : SRes} {k : Ex} (h : wpS (fun sp1 M1 => wpS nx (fun _ _ => False) (fun _ _ => False) (fun _ _ => False) X (k sp1 M1)) (fun _ _ => False) (fun _ _ => False) (fun _ _ => False) X r) : wpS nx (fun _ _ => False) (fun _ _ => False) (fun _ _ => False) X (r.seq k) := by
  cases r with
  | nx sp M => exact h
  | ret p M => exact h
  | brk sp M => exact h
  | cnt sp M => exact h
  | exc x sp M => exact h
  | bad => exact h
theorem WU.nil (h : nx sp M) : WU T Γ [] [] sp M nx X := ⟨h⟩
theorem WU.name {p : PV} {us : List UT} {ps : List PV} (h : WSET sp i (some p) fun sp1 => WU T Γ us ps sp1 M nx X) : WU T Γ (.name i :: us) (p :: ps) sp M nx X := ⟨by
  simp only [asgUs, asg1U, nameK]
  rw [if_pos h.run.1]
  exact h.run.2.run⟩
theorem WU.fld {p : PV} {f : Str} {us : List UT} {ps : List PV} (h : WE T Γ a sp M (fun q M1 => SETF T M1 q f p fun M3 => WU T Γ us ps sp M3 nx X) fun x M1 => X x sp M1) : WU T Γ (.fld a f :: us) (p :: ps) sp M nx X := ⟨by
  simp only [asgUs, asg1U]
  exact wpS_seqU (wpS_ofR (wpR_imp h.run (fun q M1 h => wpS_setFK ⟨h.run.elim fun M3 z => ⟨M3, z.1, z.2.run⟩⟩) fun _ _ h => h))⟩
theorem WU.sub {p : PV} {us : List UT} {ps : List PV} (h : WE T Γ a sp M (fun q M1 => WE T Γ b sp M1 (fun r M2 => ∃ M4, setP M2 q r p = some M4 ∧ WU T Γ us ps sp M4 nx X) fun x M1 => X x sp M1) fun x M1 => X x sp M1) : WU T Γ (.sub a b :: us) (p :: ps) sp M nx X := ⟨by
  simp only [asgUs, asg1U]
  refine wpS_seqU (wpS_ofR (wpR_imp h.run (fun q M1 h => wpS_ofR (wpR_imp h.run (fun r M2 h => ?_) fun _ _ h => h)) fun _ _ h => h))
  obtain ⟨M4, e, h⟩ := h
  unfold setK
  rw [e]
  exact h.run⟩
theorem W1.asgU {us : List UT} (h : WE T Γ e sp M (fun p M1 => ∃ ps, p = .tup ps ∧ ps.length = us.length ∧ WU T Γ us ps sp M1 nx X) fun x M1 => X x sp M1) : W1 T Γ (.asgU us e) sp M nx rt lp lb X := ⟨by
  rw [show ex T Γ (.asgU us e) sp M = SRes.ofR (ev T Γ e sp M) sp (asgUK T Γ us sp) by simp only [ex]]
  refine wpS_ofR (wpR_imp h.run (fun p M1 h => ?_) fun _ _ h => h)
  obtain ⟨ps, rfl, hl, h⟩ := h
  simp only [asgUK]
  rw [if_pos hl]
  exact wpS_imp h.run (fun _ _ h => h) (fun _ _ h => h.elim) (fun _ _ h => h.elim) (fun _ _ h => h.elim) fun _ _ _ h => h⟩
theorem W1.raise (h : WES T Γ es sp M (fun ps M1 => X ⟨i, ps, false⟩ sp M1) fun x M1 => X x sp M1) : W1 T Γ (.raise i es) sp M nx rt lp lb X := ⟨by
  rw [ex_raise]
  exact wpS_ofR (wpR_imp h.run (fun _ _ h => h) fun _ _ h => h)⟩
theorem W1.pass (h : nx sp M) : W1 T Γ .pass sp M nx rt lp lb X := ⟨by rw [ex_pass]; exact h⟩
theorem W1.brk (h : lb sp M) : W1 T Γ .brk sp M nx rt lp lb X := ⟨by rw [ex_brk]; exact h⟩
theorem W1.cnt (h : lp sp M) : W1 T Γ .cnt sp M nx rt lp lb X := ⟨by rw [ex_cnt]; exact h⟩
structure HDL (T : Tab) (hs : List HC) (x : Exc) (sp : Sl) (M : Store) (nx : Sl → Store → Prop) (rt : PV → Store → Prop) (lp lb : Sl → Store → Prop) (X : Exc → Sl → Store → Prop) : Prop where
  run : wpS nx rt lp lb X (runH T.exm x sp M hs)
theorem W1.tryS {hs : List HC} (h : WS T Γ sb sp M nx rt lp lb fun x sp1 M1 => HDL T hs x sp1 M1 nx rt lp lb X) : W1 T Γ (.tryS sb hs) sp M nx rt lp lb X := ⟨by
  rw [ex_try]
  have h1 := h.run
  cases hv : exs T Γ sb sp M with
  | exc x sp1 M1 => rw [hv] at h1; rw [tryK_exc]; exact HDL.run h1
  | nx sp M => rw [hv] at h1; exact h1
  | ret p M => rw [hv] at h1; exact h1
  | brk sp M => rw [hv] at h1; exact h1
  | cnt sp M => rw [hv] at h1; exact h1
  | bad => rw [hv] at h1; exact h1⟩
theorem W1.forS {it : CI} (h : WI T Γ it sp M (fun J M1 => FOR T Γ J.gd t sb J.items sp M1 nx rt lp lb X) fun x M1 => X x sp M1) : W1 T Γ (.forS t it sb) sp M nx rt lp lb X := ⟨by
  rw [ex_for]
  exact wpS_ofR (wpR_imp h.run (fun _ _ h => h.run) fun _ _ h => h)⟩
theorem FOR.nil {gd : List (Nat × List PV)} (hg : gdOk M gd) (h : nx sp M) : FOR T Γ gd t sb [] sp M nx rt lp lb X := ⟨by unfold forR gdIfS; rw [if_pos hg]; exact h⟩
theorem FOR.cons {gd : List (Nat × List PV)} {x : PV} {xs : List PV} (hg : gdOk M gd) (h : WASG t x sp fun sp1 => WS T Γ sb sp1 M (fun sp2 M2 => FOR T Γ gd t sb xs sp2 M2 nx rt lp lb X) rt (fun sp2 M2 => FOR T Γ gd t sb xs sp2 M2 nx rt lp lb X) nx X) : FOR T Γ gd t sb (x :: xs) sp M nx rt lp lb X := ⟨by
  obtain ⟨sp1, e1, h1⟩ := h.run
  unfold forR gdIfS
  rw [if_pos hg, e1]
  dsimp only
  have h2 := h1.run
  cases hv : exs T Γ sb sp1 M with
  | nx sp2 M2 => rw [hv] at h2; exact FOR.run h2
  | cnt sp2 M2 => rw [hv] at h2; exact FOR.run h2
  | brk sp2 M2 => rw [hv] at h2; exact h2
  | ret p M2 => rw [hv] at h2; exact h2
  | exc x sp2 M2 => rw [hv] at h2; exact h2
  | bad => rw [hv] at h2; exact h2⟩
/-- turn by turn, with a state of thought -/
theorem FOR.ghoR {gd : List (Nat × List PV)} {α γ : Type} (eI : α → PV) (step : γ → α → γ) (I : γ → Sl → Store → Prop) {rest : List PV} (hg : ∀ g sp M, I g sp M → gdOk M gd) : ∀ {items : List α} {g : γ} {sp : Sl} {M : Store}, I g sp M →
    (∀ (g : γ) (x : α) (sp : Sl) (M : Store), x ∈ items → I g sp M → WASG t (eI x) sp fun sp1 => WS T Γ sb sp1 M (I (step g x)) rt (I (step g x)) NoS X) →
    (∀ sp M, I (items.foldl step g) sp M → FOR T Γ gd t sb rest sp M nx rt lp lb X) → FOR T Γ gd t sb (items.map eI ++ rest) sp M nx rt lp lb X
  | [], g, sp, M, h, _, hn => hn sp M h
  | x :: xs, g, sp, M, h, hs, hn => by
    rw [List.map_cons, List.cons_append]
    refine FOR.cons (hg g sp M h) ?_
    have rec_ : ∀ sp M, I (step g x) sp M → FOR T Γ gd t sb (xs.map eI ++ rest) sp M nx rt lp lb X := fun sp M hI =>
      FOR.ghoR eI step I hg hI (fun g y sp M hy hi => hs g y sp M (List.mem_cons_of_mem _ hy) hi) fun sp M hI => hn sp M hI
    obtain ⟨sp1, e1, h1⟩ := (hs g x sp M List.mem_cons_self h).run
    exact ⟨sp1, e1, ⟨wpS_imp h1.run (fun sp M hI => rec_ sp M hI) (fun _ _ h => h) (fun sp M hI => rec_ sp M hI) (fun _ _ h => h.elim) fun _ _ _ h => h⟩⟩
theorem FOR.gho {gd : List (Nat × List PV)} {α γ : Type} (eI : α → PV) (step : γ → α → γ) (I : γ → Sl → Store → Prop) (hg : ∀ g sp M, I g sp M → gdOk M gd) {items : List α} {g : γ} (h : I g sp M)
    (hs : ∀ (g : γ) (x : α) (sp : Sl) (M : Store), x ∈ items → I g sp M → WASG t (eI x) sp fun sp1 => WS T Γ sb sp1 M (I (step g x)) rt (I (step g x)) NoS X)
    (hn : ∀ sp M, I (items.foldl step g) sp M → nx sp M) : FOR T Γ gd t sb (items.map eI) sp M nx rt lp lb X := by
  have := FOR.ghoR (rest := []) (nx := nx) (rt := rt) (lp := lp) (lb := lb) (X := X) eI step I hg h hs fun sp M hI => FOR.nil (hg _ _ _ hI) (hn sp M hI)
  rwa [List.append_nil] at this
/-- the same where nothing is walked that changes -/
theorem FOR.gho0 {α γ : Type} (eI : α → PV) (step : γ → α → γ) (I : γ → Sl → Store → Prop) {items : List α} {g : γ} (h : I g sp M)
    (hs : ∀ (g : γ) (x : α) (sp : Sl) (M : Store), x ∈ items → I g sp M → WASG t (eI x) sp fun sp1 => WS T Γ sb sp1 M (I (step g x)) rt (I (step g x)) NoS X)
    (hn : ∀ sp M, I (items.foldl step g) sp M → nx sp M) : FOR T Γ [] t sb (items.map eI) sp M nx rt lp lb X :=
  FOR.gho eI step I (fun _ _ M _ => gd0 M) h hs hn
/-- turn by turn, told by what was walked so far -/
theorem FOR.preR {gd : List (Nat × List PV)} {α : Type} (eI : α → PV) (I : List α → Sl → Store → Prop) {rest : List PV} (hg : ∀ l sp M, I l sp M → gdOk M gd) : ∀ {items : List α} (pre : List α) {sp : Sl} {M : Store}, I pre sp M →
    (∀ (l : List α) (x : α) (post : List α) (sp : Sl) (M : Store), pre ++ items = l ++ x :: post → I l sp M → WASG t (eI x) sp fun sp1 => WS T Γ sb sp1 M (I (l ++ [x])) rt (I (l ++ [x])) NoS X) →
    (∀ sp M, I (pre ++ items) sp M → FOR T Γ gd t sb rest sp M nx rt lp lb X) → FOR T Γ gd t sb (items.map eI ++ rest) sp M nx rt lp lb X
  | [], pre, sp, M, h, _, hn => hn sp M (by rw [List.append_nil]; exact h)
  | x :: xs, pre, sp, M, h, hs, hn => by
    rw [List.map_cons, List.cons_append]
    refine FOR.cons (hg pre sp M h) ?_
    have e : (pre ++ [x]) ++ xs = pre ++ x :: xs := by rw [List.append_assoc]; rfl
    have rec_ : ∀ sp M, I (pre ++ [x]) sp M → FOR T Γ gd t sb (xs.map eI ++ rest) sp M nx rt lp lb X := fun sp M hI =>
      FOR.preR eI I hg (pre ++ [x]) hI (fun l y post sp M he hi => hs l y post sp M (by rw [← e]; exact he) hi) fun sp M hI => hn sp M (by rw [← e]; exact hI)
    obtain ⟨sp1, e1, h1⟩ := (hs pre x xs sp M rfl h).run
    exact ⟨sp1, e1, ⟨wpS_imp h1.run (fun sp M hI => rec_ sp M hI) (fun _ _ h => h) (fun sp M hI => rec_ sp M hI) (fun _ _ h => h.elim) fun _ _ _ h => h⟩⟩
theorem FOR.pre0 {α : Type} (eI : α → PV) (I : List α → Sl → Store → Prop) {items : List α} (h : I [] sp M)
    (hs : ∀ (l : List α) (x : α) (post : List α) (sp : Sl) (M : Store), items = l ++ x :: post → I l sp M → WASG t (eI x) sp fun sp1 => WS T Γ sb sp1 M (I (l ++ [x])) rt (I (l ++ [x])) NoS X)
    (hn : ∀ sp M, I items sp M → nx sp M) : FOR T Γ [] t sb (items.map eI) sp M nx rt lp lb X := by
  have := FOR.preR (rest := []) (nx := nx) (rt := rt) (lp := lp) (lb := lb) (X := X) eI I (fun _ _ M _ => gd0 M) [] h hs fun sp M hI => FOR.nil (gd0 _) (hn sp M hI)
  rwa [List.append_nil] at this
/-- the same, then the rest -/
theorem FOR.pre1 {α : Type} (eI : α → PV) (I : List α → Sl → Store → Prop) {items : List α} {rest : List PV} (h : I [] sp M)
    (hs : ∀ (l : List α) (x : α) (post : List α) (sp : Sl) (M : Store), items = l ++ x :: post → I l sp M → WASG t (eI x) sp fun sp1 => WS T Γ sb sp1 M (I (l ++ [x])) rt (I (l ++ [x])) NoS X)
    (hn : ∀ sp M, I items sp M → FOR T Γ [] t sb rest sp M nx rt lp lb X) : FOR T Γ [] t sb (items.map eI ++ rest) sp M nx rt lp lb X :=
  FOR.preR eI I (fun _ _ M _ => gd0 M) [] h hs hn
theorem FOR.invG {gd : List (Nat × List PV)} {α : Type} (eI : α → PV) (I : Nat → Sl → Store → Prop) (hg : ∀ i sp M, I i sp M → gdOk M gd) : ∀ {items : List α} {i : Nat} {sp : Sl} {M : Store}, I i sp M →
    (∀ (j : Nat) (x : α) (sp : Sl) (M : Store), items[j]? = some x → I (i + j) sp M → WASG t (eI x) sp fun sp1 => WS T Γ sb sp1 M (I (i + j + 1)) rt (I (i + j + 1)) nx X) →
    (∀ sp M, I (i + items.length) sp M → nx sp M) → FOR T Γ gd t sb (items.map eI) sp M nx rt lp lb X
  | [], i, sp, M, h, _, hn => ⟨by rw [List.map_nil]; unfold forR gdIfS; rw [if_pos (hg i sp M h)]; exact hn sp M h⟩
  | x :: xs, i, sp, M, h, hs, hn => ⟨by
    obtain ⟨sp1, e1, h1⟩ := (hs 0 x sp M rfl h).run
    rw [List.map_cons]
    unfold forR gdIfS
    rw [if_pos (hg i sp M h), e1]
    dsimp only
    have h2 := h1.run
    have rec_ : ∀ sp M, I (i + 1) sp M → FOR T Γ gd t sb (xs.map eI) sp M nx rt lp lb X := fun sp M hI =>
      FOR.invG (items := xs) (i := i + 1) eI I hg hI (fun j y sp M hy hi => by
        have := hs (j + 1) y sp M (by simpa using hy) (by rw [show i + (j + 1) = i + 1 + j by omega]; exact hi)
        rw [show i + (j + 1) + 1 = i + 1 + j + 1 by omega] at this
        exact this) (fun sp M hI => hn sp M (by rw [List.length_cons, show i + (xs.length + 1) = i + 1 + xs.length by omega]; exact hI))
    cases hv : exs T Γ sb sp1 M with
    | nx sp2 M2 => rw [hv] at h2; exact (rec_ sp2 M2 h2).run
    | cnt sp2 M2 => rw [hv] at h2; exact (rec_ sp2 M2 h2).run
    | brk sp2 M2 => rw [hv] at h2; exact h2
    | ret p M2 => rw [hv] at h2; exact h2
    | exc x sp2 M2 => rw [hv] at h2; exact h2
    | bad => rw [hv] at h2; exact h2⟩
theorem FOR.inv {α : Type} {items : List α} (eI : α → PV) (I : Nat → Sl → Store → Prop) (h0 : I 0 sp M) (hs : ∀ (j : Nat) (x : α) (sp : Sl) (M : Store), items[j]? = some x → I j sp M → WASG t (eI x) sp fun sp1 => WS T Γ sb sp1 M (I (j + 1)) rt (I (j + 1)) nx X)
    (hn : ∀ sp M, I items.length sp M → nx sp M) : FOR T Γ [] t sb (items.map eI) sp M nx rt lp lb X :=
  FOR.invG (i := 0) eI I (fun _ _ M _ => gd0 M) h0 (fun j x sp M hx hI => by rw [Nat.zero_add] at hI ⊢; exact hs j x sp M hx hI) (fun sp M hI => hn sp M (by rw [Nat.zero_add] at hI; exact hI))
theorem FOR.invL {items : List PV} (I : Nat → Sl → Store → Prop) (h0 : I 0 sp M) (hs : ∀ (j : Nat) (x : PV) (sp : Sl) (M : Store), items[j]? = some x → I j sp M → WASG t x sp fun sp1 => WS T Γ sb sp1 M (I (j + 1)) rt (I (j + 1)) nx X)
    (hn : ∀ sp M, I items.length sp M → nx sp M) : FOR T Γ [] t sb items sp M nx rt lp lb X := by
  have := FOR.inv (T := T) (Γ := Γ) (rt := rt) (lp := lp) (lb := lb) (X := X) (t := t) (sb := sb) (items := items) (fun x => x) I h0 hs hn
  rwa [List.map_id''] at this
  exact fun _ => rfl
/-- enumerate -/
theorem FOR.enum {α : Type} {items : List α} (f : α → PV) (I : Nat → Sl → Store → Prop) (h0 : I 0 sp M) (hs : ∀ (j : Nat) (x : α) (sp : Sl) (M : Store), items[j]? = some x → I j sp M → WASG t (.tup [.int (j : Int), f x]) sp fun sp1 => WS T Γ sb sp1 M (I (j + 1)) rt (I (j + 1)) nx X)
    (hn : ∀ sp M, I items.length sp M → nx sp M) : FOR T Γ [] t sb (enumL (items.map f)) sp M nx rt lp lb X := by
  rw [enumLA]
  refine FOR.inv _ I h0 (fun j x sp M hx hI => ?_) (fun sp M hI => hn sp M (by rw [List.length_zipIdx] at hI; exact hI))
  rw [List.getElem?_zipIdx] at hx
  cases hj : items[j]? with
  | none => rw [hj] at hx; cases hx
  | some y =>
    rw [hj] at hx
    simp only [Option.map_some, Option.some.injEq, Nat.zero_add] at hx
    subst hx
    exact hs j y sp M hj hI
theorem W1.whileS (I : Nat → Sl → Store → Prop) : ∀ (n : Nat) {sp : Sl} {M : Store}, I n sp M →
    (∀ n sp M, I n sp M → WE T Γ c sp M (fun p M1 => NB p fun z => IFB z (WS T Γ sb sp M1 (fun sp2 M2 => ∃ m, m < n ∧ I m sp2 M2) rt (fun sp2 M2 => ∃ m, m < n ∧ I m sp2 M2) nx X) (nx sp M1)) fun x M1 => X x sp M1) →
    W1 T Γ (.whileS c sb) sp M nx rt lp lb X := fun n => by
  induction n using Nat.strongRecOn with
  | ind n ih =>
    intro sp M h hs
    refine ⟨?_⟩
    rw [ex_while, whileR_unfold]
    unfold whileK
    have h1 := (hs n sp M h).run
    show wpS nx rt lp lb X (SRes.ofR (evTr (ev T Γ c sp M)) sp _)
    cases hv : ev T Γ c sp M with
    | ok p M1 =>
      rw [hv] at h1
      obtain ⟨z, rfl, h2⟩ := NB.run h1
      rw [evTr_bl, ofR_ok]
      cases z with
      | true =>
        rw [if_pos rfl]
        have h3 := (h2.t rfl).run
        have rec_ : ∀ sp2 M2, (∃ m, m < n ∧ I m sp2 M2) → wpS nx rt lp lb X (whileR (fun sp M => evTr (ev T Γ c sp M)) (exs T Γ sb) sp2 M2) := fun sp2 M2 ⟨m, hm, hI⟩ => by
          have := (ih m hm hI hs).run
          rw [ex_while] at this
          exact this
        cases hw : exs T Γ sb sp M1 with
        | nx sp2 M2 => rw [hw] at h3; exact rec_ sp2 M2 h3
        | cnt sp2 M2 => rw [hw] at h3; exact rec_ sp2 M2 h3
        | brk sp2 M2 => rw [hw] at h3; exact h3
        | ret p M2 => rw [hw] at h3; exact h3
        | exc x sp2 M2 => rw [hw] at h3; exact h3
        | bad => rw [hw] at h3; exact h3
      | false => rw [if_neg (by simp)]; exact h2.f rfl
    | exc x M1 => rw [hv] at h1; exact h1
    | bad => rw [hv] at h1; exact h1.elim
end
end DI
set_option maxHeartbeats 4000000
/-! # any plain value; loops that stop at a first fault -/
namespace DI
open PySem
mutual
def ply : Nat → PV → Bool
  | _, .non => true
  | _, .bl _ => true
  | _, .int _ => true
  | _, .str s => (PyData.str s).canLay0
  | n + 1, .tup xs => plys n xs
  | n + 1, .lst xs => plys n xs
  | _, _ => false
def plys : Nat → List PV → Bool
  | _, [] => true
  | n, x :: xs => ply n x && plys n xs
end
mutual
theorem ply_dat : ∀ (p : PV) (n : Nat), ply n p = true → ∃ d, dat p = some d ∧ d.canLay0 = true ∧ d.depth ≤ n
  | .non, n, h => ⟨_, rfl, rfl, by simp [PyData.depth]⟩
  | .bl b, n, h => ⟨_, rfl, rfl, by simp [PyData.depth]⟩
  | .int i, n, h => ⟨_, rfl, rfl, by simp [PyData.depth]⟩
  | .str s, n, h => ⟨_, rfl, by unfold ply at h; exact h, by simp [PyData.depth]⟩
  | .tup xs, 0, h => by simp [ply] at h
  | .lst xs, 0, h => by simp [ply] at h
  | .tup xs, n + 1, h => by
    unfold ply at h
    obtain ⟨ds, e, h1, h2⟩ := plys_dat xs n h
    exact ⟨.tuple ds, by simp [dat, e], by simpa [PyData.canLay0] using h1, by simp [PyData.depth]; omega⟩
  | .lst xs, n + 1, h => by
    unfold ply at h
    obtain ⟨ds, e, h1, h2⟩ := plys_dat xs n h
    exact ⟨.list ds, by simp [dat, e], by simpa [PyData.canLay0] using h1, by simp [PyData.depth]; omega⟩
  | .ref b, n, h => by simp [ply] at h
  | .fn b, n, h => by simp [ply] at h
  | .ty b, n, h => by simp [ply] at h
  | .scr b, n, h => by simp [ply] at h
theorem plys_dat : ∀ (ps : List PV) (n : Nat), plys n ps = true → ∃ ds, dats ps = some ds ∧ PyData.canLayAll0 ds = true ∧ PyData.depthAll ds ≤ n
  | [], n, h => ⟨[], rfl, rfl, by simp [PyData.depthAll]⟩
  | p :: ps, n, h => by
    unfold plys at h
    obtain ⟨h1, h2⟩ := Bool.and_eq_true_iff.mp h
    obtain ⟨d, e1, a1, b1⟩ := ply_dat p n h1
    obtain ⟨ds, e2, a2, b2⟩ := plys_dat ps n h2
    exact ⟨d :: ds, by simp [dats, e1, e2], by simp [PyData.canLayAll0, a1, a2], by simp [PyData.depthAll]; omega⟩
end
theorem plys_mem {n : Nat} : ∀ {xs : List PV}, plys n xs = true → ∀ x ∈ xs, ply n x = true
  | y :: xs, h, x, hx => by
    unfold plys at h
    obtain ⟨h1, h2⟩ := Bool.and_eq_true_iff.mp h
    rcases List.mem_cons.mp hx with rfl | hx
    · exact h1
    · exact plys_mem h2 x hx
theorem plys_all {n : Nat} : ∀ {xs : List PV}, (∀ x ∈ xs, ply n x = true) → plys n xs = true
  | [], _ => rfl
  | x :: xs, h => by
    unfold plys
    rw [h x List.mem_cons_self, plys_all fun y hy => h y (List.mem_cons_of_mem _ hy)]
    rfl
theorem ply_tup {n : Nat} {xs : List PV} (h : ∀ x ∈ xs, ply n x = true) : ply (n + 1) (.tup xs) = true := by
  unfold ply
  exact plys_all h
theorem ply_lst {n : Nat} {xs : List PV} (h : ∀ x ∈ xs, ply n x = true) : ply (n + 1) (.lst xs) = true := by
  unfold ply
  exact plys_all h
theorem ply_un {n : Nat} {xs : List PV} (h : ply (n + 1) (.tup xs) = true) : ∀ x ∈ xs, ply n x = true := by
  unfold ply at h
  exact plys_mem h
theorem ply_unl {n : Nat} {xs : List PV} (h : ply (n + 1) (.lst xs) = true) : ∀ x ∈ xs, ply n x = true := by
  unfold ply at h
  exact plys_mem h
mutual
theorem cln_ply : ∀ (p : PV) (n : Nat), cln n p = true → ply n p = true
  | .non, _, _ => by simp [ply]
  | .int i, _, _ => by simp [ply]
  | .str s, _, h => by simpa [cln, ply] using h
  | .tup xs, 0, h => by simp [cln] at h
  | .lst xs, 0, h => by simp [cln] at h
  | .tup xs, n + 1, h => by
    unfold cln at h
    unfold ply
    exact clns_ply xs n h
  | .lst xs, n + 1, h => by
    unfold cln at h
    unfold ply
    exact clns_ply xs n h
  | .bl b, n, h => by simp [cln] at h
  | .ref b, n, h => by simp [cln] at h
  | .fn b, n, h => by simp [cln] at h
  | .ty b, n, h => by simp [cln] at h
  | .scr b, n, h => by simp [cln] at h
theorem clns_ply : ∀ (ps : List PV) (n : Nat), clns n ps = true → plys n ps = true
  | [], _, _ => by simp [plys]
  | p :: ps, n, h => by
    unfold clns at h
    unfold plys
    obtain ⟨h1, h2⟩ := Bool.and_eq_true_iff.mp h
    rw [cln_ply p n h1, clns_ply ps n h2]
    rfl
end
mutual
theorem ply_le : ∀ (p : PV) (n m : Nat), n ≤ m → ply n p = true → ply m p = true
  | .non, _, _, _, _ => by simp [ply]
  | .bl b, _, _, _, _ => by simp [ply]
  | .int i, _, _, _, _ => by simp [ply]
  | .str s, _, _, _, h => by simpa [ply] using h
  | .tup xs, 0, _, _, h => by simp [ply] at h
  | .lst xs, 0, _, _, h => by simp [ply] at h
  | .tup xs, n + 1, 0, hl, h => by omega
  | .lst xs, n + 1, 0, hl, h => by omega
  | .tup xs, n + 1, m + 1, hl, h => by
    unfold ply at h ⊢
    exact plys_le xs n m (by omega) h
  | .lst xs, n + 1, m + 1, hl, h => by
    unfold ply at h ⊢
    exact plys_le xs n m (by omega) h
  | .ref b, n, _, _, h => by simp [ply] at h
  | .fn b, n, _, _, h => by simp [ply] at h
  | .ty b, n, _, _, h => by simp [ply] at h
  | .scr b, n, _, _, h => by simp [ply] at h
theorem plys_le : ∀ (ps : List PV) (n m : Nat), n ≤ m → plys n ps = true → plys m ps = true
  | [], _, _, _, _ => by simp [plys]
  | p :: ps, n, m, hl, h => by
    unfold plys at h ⊢
    obtain ⟨h1, h2⟩ := Bool.and_eq_true_iff.mp h
    rw [ply_le p n m hl h1, plys_le ps n m hl h2]
    rfl
end
/-- a list beside the empty one -/
theorem neP_nil {M : Store} {ys : List PV} (h : ∀ y ∈ ys, ply 50 y = true) : neP M (.lst ys) (.lst []) = some (.bl (!ys.isEmpty)) := by
  obtain ⟨ds, e1, a1, b1⟩ := plys_dat ys 50 (plys_all h)
  have hd : dat (.lst ys) = some (.list ds) := by simp [dat, e1]
  have he : dat (.lst []) = some (.list []) := rfl
  unfold neP
  rw [show datM M (.lst ys) = dat (.lst ys) from rfl, show datM M (.lst []) = dat (.lst []) from rfl, hd, he]
  dsimp only
  have hs : (SeqAt.shaped (.list ds) && SeqAt.shaped (.list [])) = true := by
    have h0 : SeqAt.shaped (.list []) = true := by decide
    rw [h0, Bool.and_true]
    have hl : (PyData.list ds).canLay0 = true := by simpa [PyData.canLay0] using a1
    have hp : (PyData.list ds).depth ≤ 51 := by simp [PyData.depth]; omega
    simp only [SeqAt.shaped, hl, Bool.true_and, decide_eq_true_eq]
    omega
  rw [if_pos hs]
  cases ys with
  | nil =>
    simp only [dats] at e1
    cases e1
    simp [PyData.eqv, PyData.eqvAll]
  | cons y ys =>
    simp only [dats] at e1
    split at e1
    · cases e1
      simp [PyData.eqv, PyData.eqvAll]
    · cases e1
def pl1 : PV → Bool
  | .non | .bl _ | .int _ | .str _ | .tup _ | .lst _ => true
  | _ => false
theorem ply_pl1 {p : PV} {n : Nat} (h : ply n p = true) : pl1 p = true := by
  cases p <;> first | rfl | (cases n <;> simp [ply] at h)
def isT : PV → Bool
  | .tup _ => true
  | _ => false
def isI : PV → Bool
  | .int _ => true
  | .bl _ => true
  | _ => false
def isB : PV → Bool
  | .bl _ => true
  | _ => false
theorem ist_any {M : Store} {p : PV} (h : pl1 p = true) : biP .isinst M [p, .ty "tuple"] = some (.bl (isT p)) := by
  cases p <;> first | (simp [pl1] at h; done) | (simp [biP, isinstF, tyNm, isT])
theorem isi_any {M : Store} {p : PV} (h : pl1 p = true) : biP .isinst M [p, .ty "int"] = some (.bl (isI p)) := by
  cases p <;> first | (simp [pl1] at h; done) | (simp [biP, isinstF, tyNm, isI])
theorem isb_any {M : Store} {p : PV} (h : pl1 p = true) : biP .isinst M [p, .ty "bool"] = some (.bl (isB p)) := by
  cases p <;> first | (simp [pl1] at h; done) | (simp [biP, isinstF, tyNm, isB])
/-! ### loops -/
def mapI {α : Type} (e : Nat → α → PV) : Nat → List α → List PV
  | _, [] => []
  | i, a :: l => e i a :: mapI e (i + 1) l
theorem mapI_id {α : Type} (e : α → PV) : ∀ (l : List α) (i : Nat), mapI (fun _ a => e a) i l = l.map e
  | [], _ => rfl
  | a :: l, i => by simp only [mapI, List.map_cons, mapI_id e l (i + 1)]
theorem enumL_I (l : List PV) : enumL l = mapI (fun j a => .tup [.int (j : Int), a]) 0 l := by
  have h : ∀ (l : List PV) (i : Nat), (l.zipIdx i).map (fun (p, i) => PV.tup [.int (i : Nat), p]) = mapI (fun j a => .tup [.int (j : Int), a]) i l := by
    intro l
    induction l with
    | nil => intro i; rfl
    | cons a l ih => intro i; rw [List.zipIdx_cons, List.map_cons, ih]; rfl
  exact h l 0
def scan {α β : Type} (f : Nat → α → Option β) : Nat → List α → Option β
  | _, [] => none
  | j, a :: l => match f j a with
    | some r => some r
    | none => scan f (j + 1) l
/-- what leaves a loop: a value or an exception -/
inductive Out where
  | ret (p : PV)
  | exc (x : Exc)
def Out.is (o : Out) (M : Store) (s : SRes) : Prop := match o with
  | .ret p => s = .ret p M
  | .exc x => ∃ sp, s = .exc x sp M
theorem forR_scan {α β : Type} {b : PV → Sl → Option Sl} {body : Ex} {M : Store} (e : Nat → α → PV) (f : Nat → α → Option β) (g : β → Out) (I : Nat → Sl → Prop) : ∀ (items : List α) (i : Nat) (sp : Sl), I i sp →
    (∀ (j : Nat) (a : α) (sp : Sl), a ∈ items → I j sp → ∃ sp1, b (e j a) sp = some sp1 ∧ (match f j a with
      | none => ∃ sp2, body sp1 M = .nx sp2 M ∧ I (j + 1) sp2
      | some r => (g r).is M (body sp1 M))) →
    (match scan f i items with
      | none => ∃ sp', forR [] b body (mapI e i items) sp M = .nx sp' M ∧ I (i + items.length) sp'
      | some r => (g r).is M (forR [] b body (mapI e i items) sp M))
  | [], i, sp, h, _ => ⟨sp, by unfold mapI forR; rw [gdIfS_nil], h⟩
  | a :: l, i, sp, h, hs => by
    obtain ⟨sp1, e1, hr⟩ := hs i a sp List.mem_cons_self h
    have unf : forR [] b body (mapI e i (a :: l)) sp M = (match body sp1 M with
      | .nx sp2 M2 => forR [] b body (mapI e (i + 1) l) sp2 M2
      | .cnt sp2 M2 => forR [] b body (mapI e (i + 1) l) sp2 M2
      | .brk sp2 M2 => .nx sp2 M2
      | r => r) := by
      show forR [] b body (e i a :: mapI e (i + 1) l) sp M = _
      conv => lhs; unfold forR
      rw [gdIfS_nil, e1] <;> first
        | rfl
        | (cases body sp1 M <;> rfl)
        | (dsimp only; cases body sp1 M <;> rfl)
    rw [unf]
    unfold scan
    cases hf : f i a with
    | none =>
      rw [hf] at hr
      obtain ⟨sp2, e2, i2⟩ := hr
      rw [e2]
      have q := forR_scan e f g I l (i + 1) sp2 i2 fun j a sp ha => hs j a sp (List.mem_cons_of_mem _ ha)
      dsimp only
      cases hsc : scan f (i + 1) l with
      | none =>
        rw [hsc] at q
        obtain ⟨sp', e3, i3⟩ := q
        exact ⟨sp', e3, by rw [List.length_cons, show i + (l.length + 1) = i + 1 + l.length by omega]; exact i3⟩
      | some r => rw [hsc] at q; exact q
    | some r =>
      rw [hf] at hr
      dsimp only at hr ⊢
      cases hg : g r with
      | ret p =>
        rw [hg] at hr
        have hr : body sp1 M = .ret p M := hr
        rw [hr]
        rfl
      | exc x =>
        rw [hg] at hr
        obtain ⟨sp3, hr⟩ := hr
        rw [hr]
        exact ⟨sp3, rfl⟩
end DI
set_option maxHeartbeats 4000000
/-! # DI: operators and built-in functions, as steps -/
namespace DI
open PySem
section
variable {M : Store} {i j : Int} {n m : Nat} {p q : PV} {xs ys : List PV} {k : PV → Prop} {b c : Bool}
theorem OP.add (h : k (.int (i + j))) : OP (binP .Add M (.int i) (.int j)) k := .of rfl h
theorem OP.sub (h : k (.int (i - j))) : OP (binP .Sub M (.int i) (.int j)) k := .of rfl h
theorem OP.mul (hm : mulOk i j = true) (h : k (.int (i * j))) : OP (binP .Mult M (.int i) (.int j)) k := .of (bMul hm) h
theorem OP.fdiv (hm : divOk j = true) (h : k (.int (i.fdiv j))) : OP (binP .FloorDiv M (.int i) (.int j)) k := .of (bDiv hm) h
theorem OP.fmod (hm : j ≠ 0) (h : k (.int (i.fmod j))) : OP (binP .Mod M (.int i) (.int j)) k := .of (bMod hm) h
theorem OP.addL (hl : xs.length + ys.length ≤ sizeLine) (h : k (.lst (xs ++ ys))) : OP (binP .Add M (.lst xs) (.lst ys)) k := .of (bAddL hl) h
theorem OP.addT (hl : xs.length + ys.length ≤ sizeLine) (h : k (.tup (xs ++ ys))) : OP (binP .Add M (.tup xs) (.tup ys)) k := .of (bAddT hl) h
theorem repP_nat {xs : List PV} {n : Nat} : repP xs (n : Int) = (List.replicate n xs).flatten := by simp [repP]
theorem rep1 {x : PV} {n : Nat} : (List.replicate n [x]).flatten = List.replicate n x := by
  induction n with
  | zero => rfl
  | succ n ih => rw [List.replicate_succ, List.replicate_succ, List.flatten_cons, ih]; rfl
theorem OP.mulL1 {x : PV} (hl : n ≤ 20000) (h : k (.lst (List.replicate n x))) : OP (binP .Mult M (.lst [x]) (.int (n : Int))) k := .of (bMulL (by
  simp [repOk]; omega)) (by rw [repP_nat, rep1]; exact h)
theorem OP.mulT1 {x : PV} (hl : n ≤ 20000) (h : k (.tup (List.replicate n x))) : OP (binP .Mult M (.tup [x]) (.int (n : Int))) k := .of (bMulT (by
  simp [repOk]; omega)) (by rw [repP_nat, rep1]; exact h)
theorem OP.neg (h : k (.int (-i))) : OP (negP M (.int i)) k := .of rfl h
theorem eqP_int' : eqP M (.int i) (.int j) = some (.bl (decide (i = j))) := by
  simp [eqP, datM, dat, SeqAt.shaped, PyData.eqv, PyData.canLay0, PyData.depth, Bool.beq_eq_decide_eq]
theorem neP_int' : neP M (.int i) (.int j) = some (.bl (!decide (i = j))) := by
  simp [neP, datM, dat, SeqAt.shaped, PyData.eqv, PyData.canLay0, PyData.depth, Bool.beq_eq_decide_eq]
theorem OP.eqI (h : k (.bl (decide (i = j)))) : OP (cmpP .Eq M (.int i) (.int j)) k := .of (show cmpP .Eq M _ _ = _ from eqP_int' (M := M)) h
theorem OP.neI (h : k (.bl (!decide (i = j)))) : OP (cmpP .NotEq M (.int i) (.int j)) k := .of (show cmpP .NotEq M _ _ = _ from neP_int' (M := M)) h
theorem OP.lt (h : k (.bl (decide (i < j)))) : OP (cmpP .Lt M (.int i) (.int j)) k := .of rfl h
theorem OP.le (h : k (.bl (decide (i ≤ j)))) : OP (cmpP .LtE M (.int i) (.int j)) k := .of rfl h
theorem OP.gt (h : k (.bl (decide (j < i)))) : OP (cmpP .Gt M (.int i) (.int j)) k := .of rfl h
theorem OP.ge (h : k (.bl (decide (j ≤ i)))) : OP (cmpP .GtE M (.int i) (.int j)) k := .of rfl h
theorem OP.isN (h : k (.bl (isNon p))) : OP (cmpP .Is M p .non) k := .of rfl h
theorem OP.isNN (h : k (.bl (!isNon p))) : OP (cmpP .IsNot M p .non) k := .of rfl h
theorem OP.isB (h : k (.bl (b == c))) : OP (cmpP .Is M (.bl b) (.bl c)) k := .of rfl h
theorem OP.isNB (h : k (.bl (!(b == c)))) : OP (cmpP .IsNot M (.bl b) (.bl c)) k := .of rfl h
theorem OP.lenT (h : k (.int xs.length)) : OP (biP .len M [.tup xs]) k := .of rfl h
theorem OP.lenL (h : k (.int xs.length)) : OP (biP .len M [.lst xs]) k := .of rfl h
theorem OP.lenR (hl : lstAt M n = some xs) (h : k (.int xs.length)) : OP (biP .len M [.ref n]) k := .of (biLenR hl) h
theorem OP.lenRl (h : k (.int xs.length)) : OP (biP .len (M ++ [some (.lst xs)]) [.ref M.length]) k := .of (biLenR lstAt_last) h
theorem OP.abs (h : k (.int (i.natAbs : Int))) : OP (biP .abs M [.int i]) k := .of biAbs (by rw [show (if i < 0 then -i else i) = (i.natAbs : Int) by omega]; exact h)
theorem OP.int (h : k (.int i)) : OP (biP .int M [.int i]) k := .of rfl h
theorem OP.tupT (h : k (.tup xs)) : OP (biP .tuple M [.tup xs]) k := .of rfl h
theorem OP.tupL (h : k (.tup xs)) : OP (biP .tuple M [.lst xs]) k := .of rfl h
theorem OP.tupR (hl : lstAt M n = some xs) (h : k (.tup xs)) : OP (biP .tuple M [.ref n]) k := .of (biTupR hl) h
theorem OP.tupRl (h : k (.tup xs)) : OP (biP .tuple (M ++ [some (.lst xs)]) [.ref M.length]) k := .of (biTupR lstAt_last) h
theorem OP.lstT (h : k (.lst xs)) : OP (biP .list M [.tup xs]) k := .of rfl h
theorem OP.lstL (h : k (.lst xs)) : OP (biP .list M [.lst xs]) k := .of rfl h
theorem OP.min2 (h : k (.int (if j < i then j else i))) : OP (biP .min M [.int i, .int j]) k := .of rfl h
theorem OP.max2 (h : k (.int (if i < j then j else i))) : OP (biP .max M [.int i, .int j]) k := .of rfl h
theorem OP.sum (l : List Int) (h : k (.int l.sum)) : OP (biP .sum M [.lst (l.map .int)]) k := .of (biSum l) h
theorem intsOf_mf {α : Type} (f : α → Int) (l : List α) : intsOf (l.map fun x => .int (f x)) = some (l.map f) := by
  have h := intsOf_m (l.map f)
  rwa [List.map_map] at h
theorem OP.sumM {α : Type} (f : α → Int) (l : List α) (h : k (.int (l.map f).sum)) : OP (biP .sum M [.lst (l.map fun x => PV.int (f x))]) k := .of (by
  show (intsOf (l.map fun x => PV.int (f x))).map (fun ns => PV.int ns.sum) = _
  rw [intsOf_mf]
  rfl) h
theorem OP.sumT (l : List Int) (h : k (.int l.sum)) : OP (biP .sum M [.tup (l.map .int)]) k := .of (by
  show (intsOf (l.map .int)).map (fun ns => PV.int ns.sum) = _
  rw [intsOf_m]
  rfl) h
theorem intsOf_T (l : List Int) : intsOf (l.map .int) = some l := intsOf_m l
theorem OP.all {α : Type} (f : α → Bool) (l : List α) (h : k (.bl (l.all f))) : OP (biP .all M [.lst (l.map fun x => PV.bl (f x))]) k := .of (biAll f l) h
theorem OP.any {α : Type} (f : α → Bool) (l : List α) (h : k (.bl (l.any f))) : OP (biP .any M [.lst (l.map fun x => PV.bl (f x))]) k := .of (biAny f l) h
theorem OP.isiT (hp : pl1 p = true) (h : k (.bl (isT p))) : OP (biP .isinst M [p, .ty "tuple"]) k := .of (ist_any hp) h
theorem idx_getT' {M : Store} {xs : List PV} {a : Nat} {x : PV} (h : xs[a]? = some x) : idxP M (.tup xs) (.int (a : Int)) = some x := by
  have hlt : a < xs.length := (List.getElem?_eq_some_iff.mp h).1
  have e : L2.ixN xs.length (a : Int) = some a := by
    unfold L2.ixN
    rw [if_pos (by omega), if_pos (by omega), Int.toNat_natCast]
  simp only [idxP, L2.atI, e]
  exact h
theorem idx_getL' {M : Store} {xs : List PV} {a : Nat} {x : PV} (h : xs[a]? = some x) : idxP M (.lst xs) (.int (a : Int)) = some x := by
  have hlt : a < xs.length := (List.getElem?_eq_some_iff.mp h).1
  have e : L2.ixN xs.length (a : Int) = some a := by
    unfold L2.ixN
    rw [if_pos (by omega), if_pos (by omega), Int.toNat_natCast]
  simp only [idxP, L2.atI, e]
  exact h
theorem OP.idxT {a : Nat} {x : PV} (hx : xs[a]? = some x) (h : k x) : OP (idxP M (.tup xs) (.int (a : Int))) k := .of (idx_getT' hx) h
theorem OP.idxL {a : Nat} {x : PV} (hx : xs[a]? = some x) (h : k x) : OP (idxP M (.lst xs) (.int (a : Int))) k := .of (idx_getL' hx) h
theorem OP.idx0 {x : PV} (h : k x) : OP (idxP M (.tup (x :: xs)) (.int 0)) k := OP.idxT (a := 0) rfl h
theorem OP.idx1 {x y : PV} (h : k y) : OP (idxP M (.tup (x :: y :: xs)) (.int 1)) k := OP.idxT (a := 1) rfl h
theorem OP.idx2 {x y z : PV} (h : k z) : OP (idxP M (.tup (x :: y :: z :: xs)) (.int 2)) k := OP.idxT (a := 2) rfl h
theorem OP.idx0L {x : PV} (h : k x) : OP (idxP M (.lst (x :: xs)) (.int 0)) k := OP.idxL (a := 0) rfl h
theorem cutP_from (xs : List PV) (n : Nat) : cutP xs (some n) none = xs.drop n := by
  unfold cutP
  rw [HT.sIx_nat, HT.sIx_none, List.take_of_length_le (by simp)]
  by_cases h : n ≤ xs.length
  · rw [Nat.min_eq_left h]
  · rw [Nat.min_eq_right (by omega), List.drop_length, List.drop_eq_nil_of_le (by omega)]
theorem cutP_to (xs : List PV) (n : Nat) : cutP xs none (some n) = xs.take n := by
  unfold cutP
  rw [HT.sIx_nat, HT.sIx_none]
  simp
theorem cutP_ft (xs : List PV) (n m : Nat) : cutP xs (some n) (some m) = (xs.drop n).take (m - n) := by
  unfold cutP
  rw [HT.sIx_nat, HT.sIx_nat]
  by_cases h : n ≤ xs.length
  · rw [Nat.min_eq_left h]
    by_cases h2 : m ≤ xs.length
    · rw [Nat.min_eq_left h2]
    · rw [Nat.min_eq_right (by omega : xs.length ≤ m), List.take_of_length_le (by simp), List.take_of_length_le (by simp; omega)]
  · rw [Nat.min_eq_right (by omega : xs.length ≤ n), List.drop_length, List.drop_eq_nil_of_le (by omega)]
    simp
theorem OP.fromT (h : k (.tup (xs.drop n))) : OP (slcP M (.tup xs) (some (n : Int)) none) k := .of (by simp only [slcP, cutP_from]) h
theorem OP.toT (h : k (.tup (xs.take n))) : OP (slcP M (.tup xs) none (some (n : Int))) k := .of (by simp only [slcP, cutP_to]) h
theorem OP.fromL (h : k (.lst (xs.drop n))) : OP (slcP M (.lst xs) (some (n : Int)) none) k := .of (by simp only [slcP, cutP_from]) h
theorem OP.toL (h : k (.lst (xs.take n))) : OP (slcP M (.lst xs) none (some (n : Int))) k := .of (by simp only [slcP, cutP_to]) h
theorem OP.ftT (h : k (.tup ((xs.drop n).take (m - n)))) : OP (slcP M (.tup xs) (some (n : Int)) (some (m : Int))) k := .of (by simp only [slcP, cutP_ft]) h
theorem OP.ftL (h : k (.lst ((xs.drop n).take (m - n)))) : OP (slcP M (.lst xs) (some (n : Int)) (some (m : Int))) k := .of (by simp only [slcP, cutP_ft]) h
theorem OP.revT (h : k (.tup xs.reverse)) : OP (revP M (.tup xs)) k := .of rfl h
theorem OP.revL (h : k (.lst xs.reverse)) : OP (revP M (.lst xs)) k := .of rfl h
theorem OP.augA (h : k (.int (i + j))) : OP (augP .Add M (.int i) (.int j)) k := .of rfl h
theorem OP.augS (h : k (.int (i - j))) : OP (augP .Sub M (.int i) (.int j)) k := .of rfl h
end
theorem RNG.nats {n : Nat} {k : ItV → Prop} (h1 : n ≤ 100000) (h : k ⟨(List.range (n + 1)).map fun m : Nat => .int (m : Int), []⟩) : RNG (.int 0) (.int ((n : Int) + 1)) k := RNG.nat (n := n + 1) (by omega) h
theorem RNG.one1 {n : Nat} {k : ItV → Prop} (h1 : n ≤ 100000) (h : k ⟨(List.range n).map fun m : Nat => .int ((m + 1 : Nat) : Int), []⟩) : RNG (.int 1) (.int ((n : Int) + 1)) k := RNG.of (by omega) (by
  have e : ((n : Int) + 1 - 1).toNat = n := by omega
  rw [e]
  have e2 : (fun m : Nat => PV.int (1 + (m : Int))) = fun m : Nat => .int ((m + 1 : Nat) : Int) := funext fun m => by rw [show (1 : Int) + (m : Int) = ((m + 1 : Nat) : Int) by omega]
  rw [e2]
  exact h)
theorem RNG.subs {t b : Nat} {k : ItV → Prop} (h0 : b ≤ t) (h1 : t ≤ 100000) (h : k ⟨(List.range (t - b)).map fun m : Nat => .int (m : Int), []⟩) : RNG (.int 0) (.int ((t : Int) - (b : Int))) k := by
  have e : (t : Int) - (b : Int) = ((t - b : Nat) : Int) := by omega
  rw [e]
  exact RNG.nat (by omega) h
/-- what a call gives, for the search among what is known -/
structure FEQ (Γ : Fns) (f : Nat) (ps : List PV) (M : Store) (p : PV) (M' : Store) : Prop where
  run : Γ f ps M = .ok p M'
structure OEQ (o : Option PV) (r : PV) : Prop where
  run : o = some r
theorem fe {Γ : Fns} {f : Nat} {ps : List PV} {M : Store} {p : PV} {M' : Store} (h : Γ f ps M = .ok p M') : FEQ Γ f ps M p M' := ⟨h⟩
theorem WF.okE {Γ : Fns} {f : Nat} {ps : List PV} {M : Store} {p : PV} {M' : Store} {K : PV → Store → Prop} {X : Exc → Store → Prop} (h : FEQ Γ f ps M p M') (hk : K p M') : WF Γ f ps M K X := .ok h.run hk
theorem OP.ofE {o : Option PV} {r : PV} {k : PV → Prop} (h : OEQ o r) (hk : k r) : OP o k := .of h.run hk
structure FEX (Γ : Fns) (f : Nat) (ps : List PV) (M : Store) (x : Exc) (M' : Store) : Prop where
  run : Γ f ps M = .exc x M'
theorem fx {Γ : Fns} {f : Nat} {ps : List PV} {M : Store} {x : Exc} {M' : Store} (h : Γ f ps M = .exc x M') : FEX Γ f ps M x M' := ⟨h⟩
theorem WF.excE {Γ : Fns} {f : Nat} {ps : List PV} {M : Store} {x : Exc} {M' : Store} {K : PV → Store → Prop} {X : Exc → Store → Prop} (h : FEX Γ f ps M x M') (hk : X x M') : WF Γ f ps M K X := .exc h.run hk
/-! ### a store that ends in known objects -/
theorem lstAt_at {M L : Store} {i : Nat} {xs : List PV} (h : L[i]? = some (some (.lst xs))) : lstAt (M ++ L) (M.length + i) = some xs := by
  unfold lstAt
  rw [List.getElem?_append_right (Nat.le_add_right _ _), Nat.add_sub_cancel_left, h]
theorem get_app {M L : Store} {i : Nat} : (M ++ L)[M.length + i]? = L[i]? := by
  rw [List.getElem?_append_right (Nat.le_add_right _ _), Nat.add_sub_cancel_left]
theorem set_app {M L : Store} {i : Nat} {x : Option SObj} : (M ++ L).set (M.length + i) x = M ++ L.set i x := by
  rw [List.set_append_right _ _ (Nat.le_add_right _ _), Nat.add_sub_cancel_left]
theorem fldP_app {T : Tab} {M L : Store} {i c j : Nat} {fs : List (Option PV)} {f x : Str} {fn : List Str} {q : PV} (h : L[i]? = some (some (.ins c fs))) (hc : T.cnm[c]? = some (x, fn)) (ho : T.own.contains c = true) (hf : fn.findIdx? (fun g => decide (g = f)) = some j) (hq : fs[j]? = some (some q)) :
    fldP T (M ++ L) (.ref (M.length + i)) f = some q := by
  simp only [fldP, get_app, h, hc, ho, hf, hq, if_true]
theorem setFP_app {T : Tab} {M L : Store} {i c j : Nat} {fs : List (Option PV)} {f x : Str} {fn : List Str} {q : PV} (h : L[i]? = some (some (.ins c fs))) (hc : T.cnm[c]? = some (x, fn)) (ho : T.own.contains c = true) (hf : fn.findIdx? (fun g => decide (g = f)) = some j) :
    setFP T (M ++ L) (.ref (M.length + i)) f q = some (M ++ L.set i (some (.ins c (fs.set j (some q))))) := by
  simp only [setFP, get_app, h, hc, ho, hf, if_true, set_app]
theorem methP_app {T : Tab} {M L : Store} {i c j : Nat} {fs : List (Option PV)} {m : Str} (h : L[i]? = some (some (.ins c fs))) (hm : T.mts.findIdx? (fun z => decide (z.1 = c) && decide (z.2 = m)) = some j) : methP T (M ++ L) (.ref (M.length + i)) m = some (T.fnm.length + j) := by
  simp only [methP, get_app, h, hm]
theorem gcM_keep {n : Nat} {M : Store} {ps : List PV} (h : (M.take n).all (okObj n) = false) : gcM n M ps = M := by
  unfold gcM
  split
  · rfl
  · rw [if_neg (by rw [h]; simp)]
theorem gcM_app00 {M L : Store} {ps : List PV} (hM : (M.all (okObj M.length)) = true) (hp : okRefs M.length ps = true) : gcM M.length (M ++ L) ps = M := by
  unfold gcM
  split
  · rename_i h
    have : L = [] := List.eq_nil_of_length_eq_zero (by rw [List.length_append] at h; omega)
    rw [this, List.append_nil]
  · rw [List.take_left, if_pos (by rw [hp, hM]; rfl)]
theorem gcM_len {M M' : Store} {ps : List PV} (h : M'.length = M.length) : gcM M.length M' ps = M' := by
  unfold gcM
  rw [if_pos (by omega)]
end DI
set_option maxHeartbeats 4000000
/-! # any plain value is equal to itself and can be shown -/
namespace DI
open PySem
mutual
theorem eqv_self : ∀ (p : PV) (n : Nat) (d : PyData), ply n p = true → dat p = some d → PyData.eqv d d = true
  | .non, _, d, _, e => by cases e; simp [PyData.eqv]
  | .bl b, _, d, _, e => by cases e; simp [PyData.eqv]
  | .int i, _, d, _, e => by cases e; simp [PyData.eqv]
  | .str s, _, d, _, e => by cases e; simp [PyData.eqv]
  | .tup xs, 0, d, h, _ => by simp [ply] at h
  | .lst xs, 0, d, h, _ => by simp [ply] at h
  | .tup xs, n + 1, d, h, e => by
    unfold ply at h
    cases hd : dats xs with
    | none => simp [dat, hd] at e
    | some ds =>
      simp only [dat, hd, Option.map_some, Option.some.injEq] at e
      subst e
      simp only [PyData.eqv]
      exact eqvs_self xs n ds h hd
  | .lst xs, n + 1, d, h, e => by
    unfold ply at h
    cases hd : dats xs with
    | none => simp [dat, hd] at e
    | some ds =>
      simp only [dat, hd, Option.map_some, Option.some.injEq] at e
      subst e
      simp only [PyData.eqv]
      exact eqvs_self xs n ds h hd
  | .ref b, n, d, h, _ => by simp [ply] at h
  | .fn b, n, d, h, _ => by simp [ply] at h
  | .ty b, n, d, h, _ => by simp [ply] at h
  | .scr b, n, d, h, _ => by simp [ply] at h
theorem eqvs_self : ∀ (ps : List PV) (n : Nat) (ds : List PyData), plys n ps = true → dats ps = some ds → PyData.eqvAll ds ds = true
  | [], _, ds, _, e => by cases e; simp [PyData.eqvAll]
  | p :: ps, n, ds, h, e => by
    unfold plys at h
    obtain ⟨h1, h2⟩ := Bool.and_eq_true_iff.mp h
    simp only [dats] at e
    cases hp : dat p with
    | none => rw [hp] at e; simp at e
    | some d =>
      cases hps : dats ps with
      | none => rw [hp, hps] at e; simp at e
      | some ds' =>
        rw [hp, hps] at e
        simp only [Option.some.injEq] at e
        subst e
        simp only [PyData.eqvAll, eqv_self p n d h1 hp, eqvs_self ps n ds' h2 hps, Bool.and_self]
end
theorem ply_datM {M : Store} {p : PV} {n : Nat} (h : ply n p = true) : datM M p = dat p := by
  cases p <;> first | rfl | (cases n <;> simp [ply] at h)
theorem eqP_self {M : Store} {p : PV} (hp : ply 60 p = true) : eqP M p p = some (.bl true) := by
  obtain ⟨d, e1, a1, b1⟩ := ply_dat p 60 hp
  have hs : (SeqAt.shaped d && SeqAt.shaped d) = true := by
    simp only [SeqAt.shaped, a1, Bool.true_and, Bool.and_eq_true, decide_eq_true_eq]
    omega
  unfold eqP
  rw [ply_datM hp, e1]
  dsimp only
  rw [if_pos hs, eqv_self p 60 d hp e1]
theorem reprP_ofP {M : Store} {p : PV} {n : Nat} (h : Rsz p n) (hc : ply 60 p = true) (hn : n ≤ sizeLine) : ∃ s, reprP M p = some (.str s) ∧ (PyData.str s).canLay0 = true := by
  obtain ⟨d, e, s, l, o⟩ := h
  obtain ⟨d', e', a, b⟩ := ply_dat p 60 hc
  rw [e] at e'
  cases e'
  have hd : d.hasDict = false := PyData.hasDict_of_canLay d a
  refine ⟨d.shown, ?_, ?_⟩
  · unfold reprP
    rw [ply_datM hc, e]
    dsimp only
    rw [if_pos (by simp only [s, hd, Bool.not_false, Bool.and_true, Bool.true_and, Bool.and_eq_true, decide_eq_true_eq]; omega)]
  · simpa [PyData.canLay0] using o
theorem Rsz.bl {b : Bool} : Rsz (.bl b) 5 := by
  cases b
  · exact ⟨_, rfl, rfl, by simp only [PyData.shown]; decide, by simp only [PyData.shown]; exact sok_of _⟩
  · exact ⟨_, rfl, rfl, by simp only [PyData.shown]; decide, by simp only [PyData.shown]; exact sok_of _⟩
end DI
set_option maxHeartbeats 4000000
/-! # the calculus: dicts -/
namespace DI
open PySem
variable {T : Tab} {Γ : Fns} {sp : Sl} {M : Store} {K : PV → Store → Prop} {X : Exc → Store → Prop} {a b e d : CE}
theorem WE.dctN (h : K (.ref M.length) (M ++ [some (.dct [])])) : WE T Γ .dctN sp M K X := ⟨by
  rw [show ev T Γ .dctN sp M = .ok (.ref M.length) (M ++ [some (.dct [])]) by simp only [ev]]
  exact h⟩
theorem WE.getD (h : WE T Γ a sp M (fun p M1 => isDP M1 p = true ∧ WE T Γ b sp M1 (fun q M2 => WE T Γ d sp M2 (fun z M3 => OP ((getDP M3 p q).map fun r => r.getD z) fun r => K r M3) X) X) X) : WE T Γ (.getD a b d) sp M K X := ⟨by
  rw [show ev T Γ (.getD a b d) sp M = (ev T Γ a sp M).bind fun p M1 => if isDP M1 p = true then (ev T Γ b sp M1).bind fun q M2 => (ev T Γ d sp M2).bind fun z M3 => .ofO ((getDP M3 p q).map fun r => r.getD z) M3 else .bad by simp only [ev]]
  refine wpR_bind (wpR_imp h.run (fun p M1 h => ?_) fun _ _ h => h)
  rw [if_pos h.1]
  exact wpR_bind (wpR_imp h.2.run (fun q M2 h => wpR_bind (wpR_imp h.run (fun z M3 h => wpR_ofO h fun _ h => h) fun _ _ h => h)) fun _ _ h => h)⟩
theorem WE.inD {ng : Bool} (h : WE T Γ a sp M (fun q M1 => WE T Γ b sp M1 (fun p M2 => OP (inDP ng M2 p q) fun r => K r M2) X) X) : WE T Γ (.inD ng a b) sp M K X := ⟨by
  rw [show ev T Γ (.inD ng a b) sp M = (ev T Γ a sp M).bind fun q M1 => (ev T Γ b sp M1).bind fun p M2 => .ofO (inDP ng M2 p q) M2 by simp only [ev]]
  exact wpR_bind (wpR_imp h.run (fun q M1 h => wpR_bind (wpR_imp h.run (fun p M2 h => wpR_ofO h fun _ h => h) fun _ _ h => h)) fun _ _ h => h)⟩
theorem WE.idxD (h : WE T Γ a sp M (fun p M1 => WE T Γ b sp M1 (fun q M2 => OP ((getDP M2 p q).bind id) fun r => K r M2) X) X) : WE T Γ (.idxD a b) sp M K X := ⟨by
  rw [show ev T Γ (.idxD a b) sp M = (ev T Γ a sp M).bind fun p M1 => (ev T Γ b sp M1).bind fun q M2 => .ofO ((getDP M2 p q).bind id) M2 by simp only [ev]]
  exact wpR_bind (wpR_imp h.run (fun q M1 h => wpR_bind (wpR_imp h.run (fun p M2 h => wpR_ofO h fun _ h => h) fun _ _ h => h)) fun _ _ h => h)⟩
/-- d[q] = v -/
structure PUTD (M : Store) (p q v : PV) (k : Store → Prop) : Prop where
  run : ∃ M4, putDP M p q v = some M4 ∧ k M4
theorem W1.putD {nx : Sl → Store → Prop} {rt : PV → Store → Prop} {lp lb : Sl → Store → Prop} {X : Exc → Sl → Store → Prop} (h : WE T Γ e sp M (fun v M1 => WE T Γ a sp M1 (fun p M2 => WE T Γ b sp M2 (fun q M3 => PUTD M3 p q v fun M4 => nx sp M4) fun x M1 => X x sp M1) fun x M1 => X x sp M1) fun x M1 => X x sp M1) : W1 T Γ (.putD a b e) sp M nx rt lp lb X := ⟨by
  rw [show ex T Γ (.putD a b e) sp M = .ofR (ev T Γ e sp M) sp fun v M1 => .ofR (ev T Γ a sp M1) sp fun p M2 => .ofR (ev T Γ b sp M2) sp fun q M3 => putK' sp v p q M3 by simp only [ex]]
  refine wpS_ofR (wpR_imp h.run (fun v M1 h => wpS_ofR (wpR_imp h.run (fun p M2 h => wpS_ofR (wpR_imp h.run (fun q M3 h => ?_) fun _ _ h => h)) fun _ _ h => h)) fun _ _ h => h)
  obtain ⟨M4, e, h⟩ := h.run
  unfold putK'
  rw [e]
  exact h⟩
theorem dctAt_at {M L : Store} {i : Nat} {kvs : List (L2.Key × PV)} (h : L[i]? = some (some (.dct kvs))) : dctAt (M ++ L) (M.length + i) = some kvs := by
  unfold dctAt
  rw [List.getElem?_append_right (Nat.le_add_right _ _), Nat.add_sub_cancel_left, h]
theorem isDP_at {M L : Store} {i : Nat} {kvs : List (L2.Key × PV)} (h : L[i]? = some (some (.dct kvs))) : isDP (M ++ L) (.ref (M.length + i)) = true := by
  unfold isDP
  simp only [dctAt_at h]
  rfl
theorem getDP_at' {M L : Store} {i : Nat} {kvs : List (L2.Key × PV)} {q : PV} {k : L2.Key} (h : L[i]? = some (some (.dct kvs))) (hq : keyP q = some k) : getDP (M ++ L) (.ref (M.length + i)) q = some (getA kvs k) := by
  unfold getDP
  simp only [dctAt_at h, hq]
  rfl
theorem PUTD.at {M L : Store} {i : Nat} {kvs : List (L2.Key × PV)} {q v : PV} {k : L2.Key} {kk : Store → Prop} (h : L[i]? = some (some (.dct kvs))) (hq : keyP q = some k) (hz : kvs.length < sizeLine) (hk : kk (M ++ L.set i (some (.dct (putA kvs k v))))) : PUTD (M ++ L) (.ref (M.length + i)) q v kk := ⟨_, by
  unfold putDP
  simp only [dctAt_at h, hq, hz, if_true, set_app], hk⟩
theorem getA_put (kvs : List (L2.Key × PV)) (k j : L2.Key) (v : PV) : getA (putA kvs k v) j = if j = k then some v else getA kvs j := by
  unfold putA getA
  split
  · rename_i h
    induction kvs with
    | nil => simp at h
    | cons x kvs ih =>
      by_cases e : x.1 = k
      · by_cases ej : j = k
        · subst ej
          simp [e]
        · have : ¬ x.1 = j := fun z => ej (z.symm.trans e)
          simp only [List.map_cons, e, if_true]
          rw [List.find?_cons_of_neg (by simpa using fun z : k = j => ej z.symm), if_neg ej]
          rw [List.find?_cons_of_neg (by simpa using this)]
          clear ih h
          induction kvs with
          | nil => rfl
          | cons y kvs ih =>
            by_cases ey : y.1 = k
            · have : ¬ y.1 = j := fun z => ej (z.symm.trans ey)
              simp only [List.map_cons, ey, if_true]
              rw [List.find?_cons_of_neg (by simpa using fun z : k = j => ej z.symm), List.find?_cons_of_neg (by simpa using this), ih]
            · simp only [List.map_cons, ey, if_false]
              by_cases ez : y.1 = j
              · rw [List.find?_cons_of_pos (by simpa using ez), List.find?_cons_of_pos (by simpa using ez)]
              · rw [List.find?_cons_of_neg (by simpa using ez), List.find?_cons_of_neg (by simpa using ez), ih]
      · have h' : (kvs.any fun kv => decide (kv.1 = k)) = true := by simpa [e] using h
        simp only [List.map_cons, e, if_false]
        by_cases ez : x.1 = j
        · have : ¬ j = k := fun z => e (ez.trans z)
          rw [List.find?_cons_of_pos (by simpa using ez), List.find?_cons_of_pos (by simpa using ez), if_neg this]
        · rw [List.find?_cons_of_neg (by simpa using ez), List.find?_cons_of_neg (by simpa using ez), ih h']
  · rename_i h
    rw [List.find?_append]
    by_cases ej : j = k
    · subst ej
      have : kvs.find? (fun kv => decide (kv.1 = j)) = none := by
        rw [List.find?_eq_none]
        intro x hx
        simp only [decide_eq_true_eq]
        intro z
        exact h (List.any_eq_true.mpr ⟨x, hx, by simpa using z⟩)
      rw [this]
      simp
    · have : ([(k, v)] : List (L2.Key × PV)).find? (fun kv => decide (kv.1 = j)) = none := by
        rw [List.find?_cons_of_neg (by simpa using fun z : k = j => ej z.symm)]
        rfl
      rw [this, if_neg ej, Option.or_none]
end DI
set_option maxHeartbeats 0
namespace My
open PySem DI
def top (i : Nat) : Stmt := PySem.Challenge.pw_servedever_k30_delays_and_frames_over_an.main.body.getD i (.Pass ⟨0, 0, 0, 0⟩)
def c_is_number : FnC := ⟨1, ["thing"], (.cons (.ret (.andE (.cons (.callB .isinst (.cons (.var 0) (.cons (.bty "int") .nil))) (.cons (.notE (.callB .isinst (.cons (.var 0) (.cons (.bty "bool") .nil)))) .nil)))) .nil)⟩
def c_is_index : FnC := ⟨1, ["thing"], (.cons (.ret (.andE (.cons (.call 0 (.cons (.var 0) .nil)) (.cons (.cmp .GtE (.var 0) (.int 0)) .nil)))) .nil)⟩
def c_is_tuple_of : FnC := ⟨2, ["thing", "is_one", "one"], (.cons (.ret (.andE (.cons (.callB .isinst (.cons (.var 0) (.cons (.bty "tuple") .nil))) (.cons (.callB .all (.cons (.comp [("one", 2)] (.name 2) (.seq (.var 0)) none (.callV 1 (.cons (.var 2) .nil))) .nil)) .nil)))) .nil)⟩
def c_is_indexes : FnC := ⟨1, ["thing"], (.cons (.ret (.call 2 (.cons (.var 0) (.cons (.fn 1) .nil)))) .nil)⟩
def c_is_rows : FnC := ⟨1, ["thing"], (.cons (.ret (.call 2 (.cons (.var 0) (.cons (.fn 3) .nil)))) .nil)⟩
def c_checked_arrivals : FnC := ⟨2, ["streams", "thing", "index", "comes"], (.cons (.ite (.notE (.call 4 (.cons (.var 1) .nil))) (.cons (.raise 0 (.cons (.neg (.int 1)) (.cons (.str "form") .nil))) .nil) .nil) (.cons (.ite (.cmp .Gt (.callB .len (.cons (.var 1) .nil)) (.glob 0)) (.cons (.raise 1 (.cons (.str "turns") (.cons (.glob 0) .nil))) .nil) .nil) (.cons (.forS (.tup [(.name 2), (.name 3)]) (.enum (.var 1)) (.cons (.ite (.cmp .NotEq (.callB .len (.cons (.var 3) .nil)) (.callB .len (.cons (.var 0) .nil))) (.cons (.raise 0 (.cons (.var 2) (.cons (.str "streams") .nil))) .nil) .nil) .nil)) (.cons (.ret (.var 1)) .nil))))⟩
def c_comes_of : FnC := ⟨2, ["arrivals", "stream", "comes"], (.cons (.ret (.callB .tuple (.cons (.comp [("comes", 2)] (.name 2) (.seq (.var 0)) none (.idx (.var 2) (.var 1))) .nil))) .nil)⟩
def c_check_heaps : FnC := ⟨2, ["services", "heaps"], (.cons (.ite (.orE (.cons (.notE (.call 3 (.cons (.var 1) .nil))) (.cons (.cmp .NotEq (.callB .len (.cons (.var 1) .nil)) (.callB .len (.cons (.idx (.var 0) (.int 0)) .nil))) .nil))) (.cons (.raise 2 .nil) .nil) .nil) .nil)⟩
def c_served_by : FnC := ⟨3, ["services", "number", "heaps", "one", "heap"], (.cons (.expr (.call 7 (.cons (.var 0) (.cons (.var 2) .nil)))) (.cons (.ite (.orE (.cons (.notE (.call 1 (.cons (.var 1) .nil))) (.cons (.cmp .GtE (.var 1) (.callB .len (.cons (.var 0) .nil))) .nil))) (.cons (.raise 2 .nil) .nil) .nil) (.cons (.ret (.callB .tuple (.cons (.comp [("one", 3), ("heap", 4)] (.tup [(.name 3), (.name 4)]) (.zip (.idx (.var 0) (.var 1)) (.var 2)) none (.callB .min (.cons (.var 3) (.cons (.var 4) .nil)))) .nil))) .nil)))⟩
def c_played : FnC := ⟨3, ["services", "arrivals", "numbers", "lines", "heaps", "gone", "its", "comes", "number", "line", "one"], (.cons (.tryS (.cons (.expr (.call 5 (.cons (.idx (.var 0) (.int 0)) (.cons (.var 1) .nil)))) .nil) [⟨0, none, (.raise 2), (some 1)⟩]) (.cons (.ite (.orE (.cons (.notE (.call 3 (.cons (.var 2) .nil))) (.cons (.cmp .NotEq (.callB .len (.cons (.var 2) .nil)) (.callB .len (.cons (.var 1) .nil))) .nil))) (.cons (.raise 2 .nil) .nil) .nil) (.cons (.asg (.tup [(.name 3), (.name 4), (.name 5), (.name 6)]) (.tup (.cons (.lstR .nil) (.cons (.lstR .nil) (.cons (.lstR .nil) (.cons (.newI 3 4 0 (.cons (.var 0) .nil)) .nil)))))) (.cons (.forS (.tup [(.name 7), (.name 8)]) (.zip (.var 1) (.var 2)) (.cons (.expr (.meth .append (.var 4) (.cons (.callB .tuple (.cons (.comp [("line", 9), ("one", 10)] (.tup [(.name 9), (.name 10)]) (.zip (.mcall (.var 6) "lines" .nil) (.var 7)) none (.bin .Add (.var 9) (.var 10))) .nil)) .nil))) (.cons (.expr (.meth .append (.var 5) (.cons (.mcall (.var 6) "turn" (.cons (.var 7) (.cons (.var 8) .nil))) .nil))) (.cons (.expr (.meth .append (.var 3) (.cons (.mcall (.var 6) "lines" .nil) .nil))) .nil)))) (.cons (.ret (.tup (.cons (.callB .tuple (.cons (.var 3) .nil)) (.cons (.callB .tuple (.cons (.var 4) .nil)) (.cons (.callB .tuple (.cons (.var 5) .nil)) .nil))))) .nil)))))⟩
def c_gone_in : FnC := ⟨3, ["services", "arrivals", "numbers"], (.cons (.ret (.idx (.call 9 (.cons (.var 0) (.cons (.var 1) (.cons (.var 2) .nil)))) (.int 2))) .nil)⟩
def c_turns_of : FnC := ⟨1, ["pieces", "found", "turn", "many"], (.cons (.asg (.name 1) (.lstR .nil)) (.cons (.forS (.tup [(.name 2), (.name 3)]) (.enum (.var 0)) (.cons (.expr (.meth .extend (.var 1) (.cons (.bin .Mult (.lst (.cons (.var 2) .nil)) (.var 3)) .nil))) .nil)) (.cons (.ret (.frz 1)) .nil)))⟩
def c_delays : FnC := ⟨4, ["services", "arrivals", "numbers", "stream", "gone", "comes", "went", "came", "one", "at", "turn"], (.cons (.asg (.name 4) (.call 10 (.cons (.var 0) (.cons (.var 1) (.cons (.var 2) .nil))))) (.cons (.ite (.orE (.cons (.notE (.call 1 (.cons (.var 3) .nil))) (.cons (.cmp .GtE (.var 3) (.callB .len (.cons (.idx (.var 0) (.int 0)) .nil))) .nil))) (.cons (.raise 2 .nil) .nil) .nil) (.cons (.asg (.name 5) (.call 6 (.cons (.var 1) (.cons (.var 3) .nil)))) (.cons (.ite (.cmp .Gt (.callB .sum (.cons (.var 5) .nil)) (.glob 1)) (.cons (.raise 1 (.cons (.str "pieces") (.cons (.glob 1) .nil))) .nil) .nil) (.cons (.asg (.name 6) (.call 11 (.cons (.comp [("one", 8)] (.name 8) (.seq (.var 4)) none (.idx (.var 8) (.var 3))) .nil))) (.cons (.asg (.name 7) (.call 11 (.cons (.var 5) .nil))) (.cons (.ret (.callB .tuple (.cons (.comp [("at", 9), ("turn", 10)] (.tup [(.name 9), (.name 10)]) (.enum (.var 7)) none (.tup (.cons (.var 10) (.cons (.ife (.cmp .Lt (.var 9) (.callB .len (.cons (.var 6) .nil))) (.idx (.var 6) (.var 9)) .non) .nil)))) .nil))) .nil)))))))⟩
def c_greatest_delay : FnC := ⟨4, ["services", "arrivals", "numbers", "stream", "found", "came", "went"], (.cons (.asg (.name 4) (.lstR (.cons (.int 0) .nil))) (.cons (.forS (.tup [(.name 5), (.name 6)]) (.seq (.call 12 (.cons (.var 0) (.cons (.var 1) (.cons (.var 2) (.cons (.var 3) .nil)))))) (.cons (.expr (.meth .append (.var 4) (.cons (.ife (.cmp .IsNot (.var 6) .non) (.bin .Add (.bin .Sub (.var 6) (.var 5)) (.int 1)) (.int 0)) .nil))) .nil)) (.cons (.ret (.callB .max (.cons (.var 4) .nil))) .nil)))⟩
def c_by_frame : FnC := ⟨2, ["frame", "turns", "turn"], (.cons (.ite (.orE (.cons (.notE (.call 3 (.cons (.var 0) .nil))) (.cons (.cmp .Eq (.var 0) (.tup .nil)) (.cons (.notE (.call 1 (.cons (.var 1) .nil))) (.cons (.cmp .Gt (.var 1) (.glob 0)) .nil))))) (.cons (.raise 2 .nil) .nil) .nil) (.cons (.ret (.callB .tuple (.cons (.comp [("turn", 2)] (.name 2) (.rng1 (.var 1)) none (.idx (.var 0) (.bin .Mod (.var 2) (.callB .len (.cons (.var 0) .nil))))) .nil))) .nil))⟩
def c__law_bag : FnC := ⟨1, ["script", "cell"], (.cons (.ret (.lstR (.cons (.int 0) (.cons (.int 1234567891) (.cons (.int 0) (.cons (.comp [("cell", 1)] (.name 1) (.seq (.slc (.var 0) none (some (.int 63)))) none (.callB .abs (.cons (.var 1) .nil))) .nil)))))) .nil)⟩
def c__law_take : FnC := ⟨2, ["bag", "many", "begin", "second", "cell", "stirred", "value"], (.cons (.ite (.cmp .Eq (.idx (.var 0) (.int 0)) (.int 0)) (.cons (.asg (.name 4) (.idx (.bin .Add (.slc (.idx (.var 0) (.int 3)) (some (.idx (.var 0) (.int 2))) none) (.lst (.cons (.int 0) .nil))) (.int 0))) (.cons (.augI (.var 0) (.int 2) .Add (.int 1)) (.cons (.ite (.cmp .GtE (.var 4) (.bin .Pow (.int 10) (.int 18))) (.cons (.asgI (.var 0) (.int 0) (.var 4)) .nil) .nil) (.cons (.asg (.name 5) (.bin .Add (.bin .Add (.bin .Mult (.idx (.var 0) (.int 1)) (.int 48271)) (.bin .Mod (.callB .int (.cons (.var 4) .nil)) (.int 2147483647))) (.bin .Mult (.int 7919) (.idx (.var 0) (.int 2))))) (.cons (.asgI (.var 0) (.int 1) (.bin .Mod (.callB .int (.cons (.var 5) .nil)) (.int 2147483647))) .nil))))) .nil) (.cons (.ite (.cmp .Gt (.idx (.var 0) (.int 0)) (.int 0)) (.cons (.asg (.name 6) (.bin .Mod (.callB .int (.cons (.idx (.var 0) (.int 0)) .nil)) (.var 1))) (.cons (.asgI (.var 0) (.int 0) (.bin .FloorDiv (.callB .int (.cons (.idx (.var 0) (.int 0)) .nil)) (.var 1))) (.cons (.ret (.var 6)) .nil))) .nil) (.cons (.asg (.name 2) (.bin .Mod (.callB .int (.cons (.bin .Mult (.bin .Add (.idx (.var 0) (.int 1)) (.int 1)) (.int 39373)) .nil)) (.int 1000000007))) (.cons (.asg (.name 3) (.bin .Mod (.callB .int (.cons (.bin .Mult (.bin .Mod (.callB .int (.cons (.bin .Mult (.var 2) (.var 2)) .nil)) (.int 998244353)) (.int 30011)) .nil)) (.int 998244353))) (.cons (.ret (.bin .Mod (.callB .int (.cons (.bin .FloorDiv (.var 3) (.int 7)) .nil)) (.var 1))) .nil)))))⟩
def c__law_some : FnC := ⟨2, ["bag", "things"], (.cons (.ret (.idx (.var 1) (.call 16 (.cons (.var 0) (.cons (.callB .len (.cons (.var 1) .nil)) .nil))))) .nil)⟩
def c__law_alike : FnC := ⟨2, ["found", "due"], (.cons (.ret (.andE (.cons (.cmp .Eq (.callB .repr (.cons (.var 0) .nil)) (.callB .repr (.cons (.var 1) .nil))) (.cons (.cmp .Eq (.var 0) (.var 1)) .nil)))) .nil)⟩
def c__law_streams : FnC := ⟨2, ["bag", "most"], (.cons (.ret (.slc (.tup (.cons (.str "a") (.cons (.str "b") (.cons (.str "c") (.cons (.str "d") .nil))))) none (some (.bin .Add (.int 1) (.call 16 (.cons (.var 0) (.cons (.var 1) .nil))))))) .nil)⟩
def c__law_services : FnC := ⟨3, ["bag", "streams", "most", "found", "k", "stream"], (.cons (.asgC 3 [("k", 4)] (.name 4) (.rng1 (.bin .Add (.int 1) (.call 16 (.cons (.var 0) (.cons (.var 2) .nil))))) none (.callB .tuple (.cons (.comp [("stream", 5)] (.name 5) (.seq (.var 1)) none (.call 17 (.cons (.var 0) (.cons (.lst (.cons (.int 0) (.cons (.int 0) (.cons (.int 1) (.cons (.int 1) (.cons (.int 2) (.cons (.int 3) .nil))))))) .nil)))) .nil))) (.cons (.ret (.callB .tuple (.cons (.sset (.var 3)) .nil))) .nil))⟩
def c__law_played : FnC := ⟨3, ["services", "comes", "numbers", "lines", "found", "turn", "number", "heaps", "gone", "a", "b"], (.cons (.par [3, 4] (.cons (.bin .Mult (.tup (.cons (.int 0) .nil)) (.callB .len (.cons (.idx (.var 0) (.int 0)) .nil))) (.cons (.lstR .nil) .nil))) (.cons (.forS (.tup [(.name 5), (.name 6)]) (.zip (.var 1) (.var 2)) (.cons (.asg (.name 7) (.callB .tuple (.cons (.comp [("a", 9), ("b", 10)] (.tup [(.name 9), (.name 10)]) (.zip (.var 3) (.var 5)) none (.bin .Add (.var 9) (.var 10))) .nil))) (.cons (.asg (.name 8) (.callB .tuple (.cons (.comp [("a", 9), ("b", 10)] (.tup [(.name 9), (.name 10)]) (.zip (.var 7) (.idx (.var 0) (.var 6))) none (.callB .min (.cons (.var 9) (.cons (.var 10) .nil)))) .nil))) (.cons (.asg (.name 3) (.callB .tuple (.cons (.comp [("a", 9), ("b", 10)] (.tup [(.name 9), (.name 10)]) (.zip (.var 7) (.var 8)) none (.bin .Sub (.var 9) (.var 10))) .nil))) (.cons (.expr (.meth .append (.var 4) (.cons (.tup (.cons (.var 7) (.cons (.var 8) (.cons (.var 3) .nil)))) .nil))) .nil))))) (.cons (.ret (.frz 4)) .nil)))⟩
def c__law_comes : FnC := ⟨3, ["bag", "streams", "turns", "turn", "stream"], (.cons (.ret (.callB .tuple (.cons (.comp [("turn", 3)] (.name 3) (.rng1 (.var 2)) none (.callB .tuple (.cons (.comp [("stream", 4)] (.name 4) (.seq (.var 1)) none (.call 17 (.cons (.var 0) (.cons (.lst (.cons (.int 0) (.cons (.int 0) (.cons (.int 1) (.cons (.int 1) (.cons (.int 2) (.cons (.int 4) .nil))))))) .nil)))) .nil))) .nil))) .nil)⟩
def c__law_heard : FnC := ⟨1, ["act", "error"], (.cons (.tryS (.cons (.ret (.tup (.cons (.str "told") (.cons (.callV 0 .nil) .nil)))) .nil) [⟨2, none, (.ret (.tup [(.str "nothing")])), none⟩, ⟨1, (some 1), (.ret (.tup [(.str "too large"), (.fld 0), (.fld 1)])), none⟩]) .nil)⟩
def c_law : FnC := ⟨1, ["script", "bag", "lap", "one", "heard", "streams", "told", "k", "frame", "odd", "services", "turns", "comes", "numbers", "rows", "turn", "due", "most", "line", "went", "count", "piece", "came", "its"], (.cons (.asg (.name 1) (.call 15 (.cons (.var 0) .nil))) (.cons (.forS (.name 2) (.rng1 (.int 5)) (.cons (.asg (.name 5) (.call 19 (.cons (.var 1) (.cons (.int 3) .nil)))) (.cons (.asg (.tup [(.name 10), (.name 11)]) (.tup (.cons (.call 20 (.cons (.var 1) (.cons (.var 5) (.cons (.int 4) .nil)))) (.cons (.call 16 (.cons (.var 1) (.cons (.int 10) .nil))) .nil)))) (.cons (.asg (.tup [(.name 12), (.name 13)]) (.tup (.cons (.call 22 (.cons (.var 1) (.cons (.var 5) (.cons (.var 11) .nil)))) (.cons (.callB .tuple (.cons (.comp [("turn", 15)] (.name 15) (.rng1 (.var 11)) none (.call 16 (.cons (.var 1) (.cons (.callB .len (.cons (.var 10) .nil)) .nil)))) .nil)) .nil)))) (.cons (.asg (.name 6) (.call 21 (.cons (.var 10) (.cons (.var 12) (.cons (.var 13) .nil))))) (.cons (.forS (.name 7) (.rng1 (.callB .len (.cons (.var 5) .nil))) (.cons (.asg (.tup [(.name 18), (.name 19), (.name 20)]) (.tup (.cons (.lstR .nil) (.cons .dctN (.cons (.int 0) .nil))))) (.cons (.asg (.name 14) (.lstR .nil)) (.cons (.forS (.name 15) (.rng1 (.var 11)) (.cons (.forS (.name 21) (.rng1 (.idx (.idx (.var 12) (.var 15)) (.var 7))) (.cons (.expr (.meth .append (.var 18) (.cons (.var 20) .nil))) (.cons (.expr (.meth .append (.var 14) (.cons (.var 15) .nil))) (.cons (.aug 20 .Add (.int 1)) .nil)))) (.cons (.forS (.name 21) (.rng1 (.idx (.idx (.idx (.var 6) (.var 15)) (.int 1)) (.var 7))) (.cons (.putD (.var 19) (.meth .pop (.var 18) (.cons (.int 0) .nil)) (.var 15)) .nil)) .nil))) (.cons (.asg (.name 16) (.callB .tuple (.cons (.comp [("piece", 21), ("came", 22)] (.tup [(.name 21), (.name 22)]) (.enum (.var 14)) none (.tup (.cons (.var 22) (.cons (.getD (.var 19) (.var 21) .non) .nil)))) .nil))) (.cons (.asg (.name 17) (.callB .max (.cons (.bin .Add (.lst (.cons (.int 0) .nil)) (.comp [("came", 22), ("its", 23)] (.tup [(.name 22), (.name 23)]) (.seq (.var 16)) (some (.cmp .IsNot (.var 23) .non)) (.bin .Add (.bin .Sub (.var 23) (.var 22)) (.int 1)))) .nil))) (.cons (.ite (.notE (.call 18 (.cons (.lst (.cons (.call 12 (.cons (.var 10) (.cons (.var 12) (.cons (.var 13) (.cons (.var 7) .nil))))) (.cons (.call 13 (.cons (.var 10) (.cons (.var 12) (.cons (.var 13) (.cons (.var 7) .nil))))) .nil))) (.cons (.lst (.cons (.var 16) (.cons (.var 17) .nil))) .nil)))) (.cons (.ret (.bl false)) .nil) .nil) .nil))))))) (.cons (.asg (.name 8) (.callB .tuple (.cons (.comp [("turn", 15)] (.name 15) (.rng1 (.bin .Add (.int 1) (.call 16 (.cons (.var 1) (.cons (.int 4) .nil))))) none (.call 16 (.cons (.var 1) (.cons (.int 5) .nil)))) .nil))) (.cons (.ite (.notE (.call 18 (.cons (.call 14 (.cons (.var 8) (.cons (.var 11) .nil))) (.cons (.callB .tuple (.cons (.comp [("turn", 15)] (.name 15) (.rng1 (.var 11)) none (.idx (.var 8) (.bin .Mod (.var 15) (.callB .len (.cons (.var 8) .nil))))) .nil)) .nil)))) (.cons (.ret (.bl false)) .nil) .nil) (.cons (.asg (.name 9) (.call 17 (.cons (.var 1) (.cons (.lst (.cons (.callB .len (.cons (.var 5) .nil)) (.cons (.neg (.int 1)) (.cons (.bl true) (.cons .non .nil))))) .nil)))) (.cons (.asg (.name 4) (.lstR (.cons (.heard 23 (.call 12 (.cons (.var 10) (.cons (.var 12) (.cons (.var 13) (.cons (.var 9) .nil)))))) .nil))) (.cons (.expr (.meth .append (.var 4) (.cons (.heard 23 (.call 13 (.cons (.var 10) (.cons (.var 12) (.cons (.var 13) (.cons (.var 9) .nil)))))) .nil))) (.cons (.expr (.meth .append (.var 4) (.cons (.heard 23 (.call 12 (.cons (.var 10) (.cons (.var 12) (.cons (.bin .Add (.var 13) (.tup (.cons (.int 0) .nil))) (.cons (.int 0) .nil)))))) .nil))) (.cons (.expr (.meth .append (.var 4) (.cons (.heard 23 (.call 14 (.cons (.call 17 (.cons (.var 1) (.cons (.lst (.cons (.tup .nil) (.cons .non (.cons (.lst (.cons (.int 0) .nil)) (.cons (.tup (.cons (.neg (.int 1)) .nil)) (.cons (.tup (.cons (.bl true) .nil)) .nil)))))) .nil))) (.cons (.int 3) .nil)))) .nil))) (.cons (.expr (.meth .append (.var 4) (.cons (.heard 23 (.call 14 (.cons (.var 8) (.cons (.call 17 (.cons (.var 1) (.cons (.lst (.cons (.neg (.int 1)) (.cons (.int 5001) (.cons .non (.cons (.bl true) .nil))))) .nil))) .nil)))) .nil))) (.cons (.ite (.cmp .NotEq (.var 4) (.bin .Mult (.lst (.cons (.tup (.cons (.str "nothing") .nil)) .nil)) (.int 5))) (.cons (.ret (.bl false)) .nil) .nil) .nil))))))))))))))) (.cons (.asg (.name 3) (.tup (.cons (.tup (.cons (.int 1) .nil)) .nil))) (.cons (.asg (.name 4) (.lstR (.cons (.heard 23 (.call 13 (.cons (.var 3) (.cons (.tup (.cons (.tup (.cons (.int 20001) .nil)) .nil)) (.cons (.tup (.cons (.int 0) .nil)) (.cons (.int 0) .nil)))))) .nil))) (.cons (.expr (.meth .append (.var 4) (.cons (.heard 23 (.call 13 (.cons (.var 3) (.cons (.tup (.cons (.tup (.cons (.int 20000) .nil)) .nil)) (.cons (.tup (.cons (.int 0) .nil)) (.cons (.int 0) .nil)))))) .nil))) (.cons (.ret (.cmp .Eq (.var 4) (.lst (.cons (.tup (.cons (.str "too large") (.cons (.str "pieces") (.cons (.int 20000) .nil)))) (.cons (.tup (.cons (.str "told") (.cons (.int 1) .nil))) .nil))))) .nil))))))⟩
def c_Lines__init : FnC := ⟨2, ["self", "services"], (.cons (.setF (.var 0) "services" (.var 1)) (.cons (.setF (.var 0) "came" (.lstR .nil)) (.cons (.setF (.var 0) "done" (.lstR .nil)) (.cons (.setF (.var 0) "lying" (.lstR (.cons (.bin .Mult (.tup (.cons (.int 0) .nil)) (.callB .len (.cons (.idx (.var 1) (.int 0)) .nil))) .nil))) .nil))))⟩
def c_Lines__lines : FnC := ⟨1, ["self"], (.cons (.ret (.idx (.fld (.var 0) "lying") (.neg (.int 1)))) .nil)⟩
def c_Lines__turn : FnC := ⟨3, ["self", "comes", "number", "heaps", "gone", "line", "its", "heap"], (.cons (.expr (.call 7 (.cons (.fld (.var 0) "services") (.cons (.var 1) .nil)))) (.cons (.ite (.orE (.cons (.notE (.call 1 (.cons (.var 2) .nil))) (.cons (.cmp .GtE (.var 2) (.callB .len (.cons (.fld (.var 0) "services") .nil))) .nil))) (.cons (.raise 2 .nil) .nil) .nil) (.cons (.ite (.cmp .Eq (.callB .len (.cons (.fld (.var 0) "done") .nil)) (.glob 0)) (.cons (.raise 1 (.cons (.str "turns") (.cons (.glob 0) .nil))) .nil) .nil) (.cons (.asg (.name 3) (.callB .tuple (.cons (.comp [("line", 5), ("its", 6)] (.tup [(.name 5), (.name 6)]) (.zip (.idx (.fld (.var 0) "lying") (.neg (.int 1))) (.var 1)) none (.bin .Add (.var 5) (.var 6))) .nil))) (.cons (.asg (.name 4) (.call 8 (.cons (.fld (.var 0) "services") (.cons (.var 2) (.cons (.var 3) .nil))))) (.cons (.expr (.meth .append (.fld (.var 0) "came") (.cons (.var 1) .nil))) (.cons (.expr (.meth .append (.fld (.var 0) "done") (.cons (.var 2) .nil))) (.cons (.expr (.meth .append (.fld (.var 0) "lying") (.cons (.callB .tuple (.cons (.comp [("heap", 7), ("its", 6)] (.tup [(.name 7), (.name 6)]) (.zip (.var 3) (.var 4)) none (.bin .Sub (.var 7) (.var 6))) .nil)) .nil))) (.cons (.ret (.var 4)) .nil)))))))))⟩
def d_is_number : DEnt := { nm := "is_number", st := top 7, ps := ["thing"], code := c_is_number }
def d_is_index : DEnt := { nm := "is_index", st := top 8, ps := ["thing"], code := c_is_index }
def d_is_tuple_of : DEnt := { nm := "is_tuple_of", st := top 9, ps := ["thing", "is_one"], code := c_is_tuple_of }
def d_is_indexes : DEnt := { nm := "is_indexes", st := top 10, ps := ["thing"], code := c_is_indexes }
def d_is_rows : DEnt := { nm := "is_rows", st := top 11, ps := ["thing"], code := c_is_rows }
def d_checked_arrivals : DEnt := { nm := "checked_arrivals", st := top 14, ps := ["streams", "thing"], code := c_checked_arrivals }
def d_comes_of : DEnt := { nm := "comes_of", st := top 15, ps := ["arrivals", "stream"], code := c_comes_of }
def d_check_heaps : DEnt := { nm := "check_heaps", st := top 17, ps := ["services", "heaps"], code := c_check_heaps }
def d_served_by : DEnt := { nm := "served_by", st := top 18, ps := ["services", "number", "heaps"], code := c_served_by }
def d_played : DEnt := { nm := "played", st := top 23, ps := ["services", "arrivals", "numbers"], code := c_played }
def d_gone_in : DEnt := { nm := "gone_in", st := top 24, ps := ["services", "arrivals", "numbers"], code := c_gone_in }
def d_turns_of : DEnt := { nm := "turns_of", st := top 25, ps := ["pieces"], code := c_turns_of }
def d_delays : DEnt := { nm := "delays", st := top 26, ps := ["services", "arrivals", "numbers", "stream"], code := c_delays }
def d_greatest_delay : DEnt := { nm := "greatest_delay", st := top 27, ps := ["services", "arrivals", "numbers", "stream"], code := c_greatest_delay }
def d_by_frame : DEnt := { nm := "by_frame", st := top 28, ps := ["frame", "turns"], code := c_by_frame }
def d__law_bag : DEnt := { nm := "_law_bag", st := top 30, ps := ["script"], code := c__law_bag }
def d__law_take : DEnt := { nm := "_law_take", st := top 31, ps := ["bag", "many"], code := c__law_take }
def d__law_some : DEnt := { nm := "_law_some", st := top 32, ps := ["bag", "things"], code := c__law_some }
def d__law_alike : DEnt := { nm := "_law_alike", st := top 33, ps := ["found", "due"], code := c__law_alike }
def d__law_streams : DEnt := { nm := "_law_streams", st := top 34, ps := ["bag", "most"], code := c__law_streams }
def d__law_services : DEnt := { nm := "_law_services", st := top 35, ps := ["bag", "streams", "most"], code := c__law_services }
def d__law_played : DEnt := { nm := "_law_played", st := top 36, ps := ["services", "comes", "numbers"], code := c__law_played }
def d__law_comes : DEnt := { nm := "_law_comes", st := top 37, ps := ["bag", "streams", "turns"], code := c__law_comes }
def d__law_heard : DEnt := { nm := "_law_heard", st := top 38, ps := ["act"], code := c__law_heard }
def d_law : DEnt := { nm := "law", st := top 39, ps := ["script"], code := c_law }
def d_Lines__init : DEnt := { nm := "__init__", st := (cBody (top 20)).getD 0 (top 20), ps := ["self", "services"], code := c_Lines__init, cl := some 3, qn := "Lines.__init__" }
def d_Lines__lines : DEnt := { nm := "lines", st := (cBody (top 20)).getD 2 (top 20), ps := ["self"], code := c_Lines__lines, cl := some 3, qn := "Lines.lines" }
def d_Lines__turn : DEnt := { nm := "turn", st := (cBody (top 20)).getD 6 (top 20), ps := ["self", "comes", "number"], code := c_Lines__turn, cl := some 3, qn := "Lines.turn" }
def ents : List DEnt := [d_is_number, d_is_index, d_is_tuple_of, d_is_indexes, d_is_rows, d_checked_arrivals, d_comes_of, d_check_heaps, d_served_by, d_played, d_gone_in, d_turns_of, d_delays, d_greatest_delay, d_by_frame, d__law_bag, d__law_take, d__law_some, d__law_alike, d__law_streams, d__law_services, d__law_played, d__law_comes, d__law_heard, d_law, d_Lines__init, d_Lines__lines, d_Lines__turn]
def T : Tab where
  cst := [("MOST_TURNS", (.int 5000)), ("MOST_PIECES", (.int 20000))]
  fnm := (ents.take 25).map (·.nm)
  own := [3]
  mts := (ents.drop 25).map fun d => (d.cl.getD 0, d.nm)
  cnm := [("BadArrivals", ["index", "fault"]), ("TooLarge", ["what", "limit"]), ("Nothing", []), ("Lines", ["services", "came", "done", "lying"])]
  free := ["isinstance", "bool", "int", "all", "tuple", "enumerate", "len", "zip", "min", "sum", "max", "range", "abs", "repr", "sorted", "set"]
  exm := [(0, 0, true), (0, 2, false), (0, 1, false), (2, 0, false), (2, 2, true), (2, 1, false), (1, 0, false), (1, 2, false), (1, 1, true)]
  ex0 := [2]
  ex2 := [0, 1]
  hrd := [⟨23, "told", [⟨2, none, (.ret (.tup [(.str "nothing")])), none⟩, ⟨1, (some 1), (.ret (.tup [(.str "too large"), (.fld 0), (.fld 1)])), none⟩], 2⟩]
  lns := some (dScope (top 39)).names
-- CHECKS
theorem i_BadArrivals : IStat PySem.Challenge.pw_servedever_k30_delays_and_frames_over_an (cInit (top 3)) "self" "index" "fault" "index" "fault" where
  body := by kernel_rfl
  sc := by decide +kernel
  call := fun env => by kernel_rfl
  par := ⟨_, rfl, rfl⟩
  bind := fun _ _ _ _ _ _ _ _ us hl => match us, hl with | [_, _, _], _ => by with_unfolding_all rfl
  nd := by decide +kernel
  top := by decide +kernel
theorem i_TooLarge : IStat PySem.Challenge.pw_servedever_k30_delays_and_frames_over_an (cInit (top 5)) "self" "what" "limit" "what" "limit" where
  body := by kernel_rfl
  sc := by decide +kernel
  call := fun env => by kernel_rfl
  par := ⟨_, rfl, rfl⟩
  bind := fun _ _ _ _ _ _ _ _ us hl => match us, hl with | [_, _, _], _ => by with_unfolding_all rfl
  nd := by decide +kernel
  top := by decide +kernel
theorem k_is_number : chkEnt T d_is_number = true := by decide +kernel
theorem b_is_number : DBindsQ d_is_number.nm d_is_number.q d_is_number.st d_is_number.ps := fun _ _ _ _ _ _ us hl => match us, hl with | [_], _ => by with_unfolding_all rfl
theorem k_is_index : chkEnt T d_is_index = true := by decide +kernel
theorem b_is_index : DBindsQ d_is_index.nm d_is_index.q d_is_index.st d_is_index.ps := fun _ _ _ _ _ _ us hl => match us, hl with | [_], _ => by with_unfolding_all rfl
theorem k_is_tuple_of : chkEnt T d_is_tuple_of = true := by decide +kernel
theorem b_is_tuple_of : DBindsQ d_is_tuple_of.nm d_is_tuple_of.q d_is_tuple_of.st d_is_tuple_of.ps := fun _ _ _ _ _ _ us hl => match us, hl with | [_, _], _ => by with_unfolding_all rfl
theorem k_is_indexes : chkEnt T d_is_indexes = true := by decide +kernel
theorem b_is_indexes : DBindsQ d_is_indexes.nm d_is_indexes.q d_is_indexes.st d_is_indexes.ps := fun _ _ _ _ _ _ us hl => match us, hl with | [_], _ => by with_unfolding_all rfl
theorem k_is_rows : chkEnt T d_is_rows = true := by decide +kernel
theorem b_is_rows : DBindsQ d_is_rows.nm d_is_rows.q d_is_rows.st d_is_rows.ps := fun _ _ _ _ _ _ us hl => match us, hl with | [_], _ => by with_unfolding_all rfl
theorem k_checked_arrivals : chkEnt T d_checked_arrivals = true := by decide +kernel
theorem b_checked_arrivals : DBindsQ d_checked_arrivals.nm d_checked_arrivals.q d_checked_arrivals.st d_checked_arrivals.ps := fun _ _ _ _ _ _ us hl => match us, hl with | [_, _], _ => by with_unfolding_all rfl
theorem k_comes_of : chkEnt T d_comes_of = true := by decide +kernel
theorem b_comes_of : DBindsQ d_comes_of.nm d_comes_of.q d_comes_of.st d_comes_of.ps := fun _ _ _ _ _ _ us hl => match us, hl with | [_, _], _ => by with_unfolding_all rfl
theorem k_check_heaps : chkEnt T d_check_heaps = true := by decide +kernel
theorem b_check_heaps : DBindsQ d_check_heaps.nm d_check_heaps.q d_check_heaps.st d_check_heaps.ps := fun _ _ _ _ _ _ us hl => match us, hl with | [_, _], _ => by with_unfolding_all rfl
theorem k_served_by : chkEnt T d_served_by = true := by decide +kernel
theorem b_served_by : DBindsQ d_served_by.nm d_served_by.q d_served_by.st d_served_by.ps := fun _ _ _ _ _ _ us hl => match us, hl with | [_, _, _], _ => by with_unfolding_all rfl
theorem k_played : chkEnt T d_played = true := by decide +kernel
theorem b_played : DBindsQ d_played.nm d_played.q d_played.st d_played.ps := fun _ _ _ _ _ _ us hl => match us, hl with | [_, _, _], _ => by with_unfolding_all rfl
theorem k_gone_in : chkEnt T d_gone_in = true := by decide +kernel
theorem b_gone_in : DBindsQ d_gone_in.nm d_gone_in.q d_gone_in.st d_gone_in.ps := fun _ _ _ _ _ _ us hl => match us, hl with | [_, _, _], _ => by with_unfolding_all rfl
theorem k_turns_of : chkEnt T d_turns_of = true := by decide +kernel
theorem b_turns_of : DBindsQ d_turns_of.nm d_turns_of.q d_turns_of.st d_turns_of.ps := fun _ _ _ _ _ _ us hl => match us, hl with | [_], _ => by with_unfolding_all rfl
theorem k_delays : chkEnt T d_delays = true := by decide +kernel
theorem b_delays : DBindsQ d_delays.nm d_delays.q d_delays.st d_delays.ps := fun _ _ _ _ _ _ us hl => match us, hl with | [_, _, _, _], _ => by with_unfolding_all rfl
theorem k_greatest_delay : chkEnt T d_greatest_delay = true := by decide +kernel
theorem b_greatest_delay : DBindsQ d_greatest_delay.nm d_greatest_delay.q d_greatest_delay.st d_greatest_delay.ps := fun _ _ _ _ _ _ us hl => match us, hl with | [_, _, _, _], _ => by with_unfolding_all rfl
theorem k_by_frame : chkEnt T d_by_frame = true := by decide +kernel
theorem b_by_frame : DBindsQ d_by_frame.nm d_by_frame.q d_by_frame.st d_by_frame.ps := fun _ _ _ _ _ _ us hl => match us, hl with | [_, _], _ => by with_unfolding_all rfl
theorem k__law_bag : chkEnt T d__law_bag = true := by decide +kernel
theorem b__law_bag : DBindsQ d__law_bag.nm d__law_bag.q d__law_bag.st d__law_bag.ps := fun _ _ _ _ _ _ us hl => match us, hl with | [_], _ => by with_unfolding_all rfl
theorem k__law_take : chkEnt T d__law_take = true := by decide +kernel
theorem b__law_take : DBindsQ d__law_take.nm d__law_take.q d__law_take.st d__law_take.ps := fun _ _ _ _ _ _ us hl => match us, hl with | [_, _], _ => by with_unfolding_all rfl
theorem k__law_some : chkEnt T d__law_some = true := by decide +kernel
theorem b__law_some : DBindsQ d__law_some.nm d__law_some.q d__law_some.st d__law_some.ps := fun _ _ _ _ _ _ us hl => match us, hl with | [_, _], _ => by with_unfolding_all rfl
theorem k__law_alike : chkEnt T d__law_alike = true := by decide +kernel
theorem b__law_alike : DBindsQ d__law_alike.nm d__law_alike.q d__law_alike.st d__law_alike.ps := fun _ _ _ _ _ _ us hl => match us, hl with | [_, _], _ => by with_unfolding_all rfl
theorem k__law_streams : chkEnt T d__law_streams = true := by decide +kernel
theorem b__law_streams : DBindsQ d__law_streams.nm d__law_streams.q d__law_streams.st d__law_streams.ps := fun _ _ _ _ _ _ us hl => match us, hl with | [_, _], _ => by with_unfolding_all rfl
theorem k__law_services : chkEnt T d__law_services = true := by decide +kernel
theorem b__law_services : DBindsQ d__law_services.nm d__law_services.q d__law_services.st d__law_services.ps := fun _ _ _ _ _ _ us hl => match us, hl with | [_, _, _], _ => by with_unfolding_all rfl
theorem k__law_played : chkEnt T d__law_played = true := by decide +kernel
theorem b__law_played : DBindsQ d__law_played.nm d__law_played.q d__law_played.st d__law_played.ps := fun _ _ _ _ _ _ us hl => match us, hl with | [_, _, _], _ => by with_unfolding_all rfl
theorem k__law_comes : chkEnt T d__law_comes = true := by decide +kernel
theorem b__law_comes : DBindsQ d__law_comes.nm d__law_comes.q d__law_comes.st d__law_comes.ps := fun _ _ _ _ _ _ us hl => match us, hl with | [_, _, _], _ => by with_unfolding_all rfl
theorem k__law_heard : chkEnt T d__law_heard = true := by decide +kernel
theorem b__law_heard : DBindsQ d__law_heard.nm d__law_heard.q d__law_heard.st d__law_heard.ps := fun _ _ _ _ _ _ us hl => match us, hl with | [_], _ => by with_unfolding_all rfl
theorem k_law : chkEnt T d_law = true := by decide +kernel
theorem b_law : DBindsQ d_law.nm d_law.q d_law.st d_law.ps := fun _ _ _ _ _ _ us hl => match us, hl with | [_], _ => by with_unfolding_all rfl
theorem k_Lines__init : chkEnt T d_Lines__init = true := by decide +kernel
theorem b_Lines__init : DBindsQ d_Lines__init.nm d_Lines__init.q d_Lines__init.st d_Lines__init.ps := fun _ _ _ _ _ _ us hl => match us, hl with | [_, _], _ => by with_unfolding_all rfl
theorem k_Lines__lines : chkEnt T d_Lines__lines = true := by decide +kernel
theorem b_Lines__lines : DBindsQ d_Lines__lines.nm d_Lines__lines.q d_Lines__lines.st d_Lines__lines.ps := fun _ _ _ _ _ _ us hl => match us, hl with | [_], _ => by with_unfolding_all rfl
theorem k_Lines__turn : chkEnt T d_Lines__turn = true := by decide +kernel
theorem b_Lines__turn : DBindsQ d_Lines__turn.nm d_Lines__turn.q d_Lines__turn.st d_Lines__turn.ps := fun _ _ _ _ _ _ us hl => match us, hl with | [_, _, _], _ => by with_unfolding_all rfl
theorem h__law_heard : HrdFact T ents ⟨23, "told", [⟨2, none, (.ret (.tup [(.str "nothing")])), none⟩, ⟨1, (some 1), (.ret (.tup [(.str "too large"), (.fld 0), (.fld 1)])), none⟩], 2⟩ := ⟨d__law_heard, "act", ["act", "error"], rfl, b__law_heard, by decide +kernel, rfl⟩
theorem lns_ok : lnsB T ents "law" = true := by decide +kernel
theorem checks : AllP (fun d : DEnt => chkEnt T d = true) ents := ⟨k_is_number, k_is_index, k_is_tuple_of, k_is_indexes, k_is_rows, k_checked_arrivals, k_comes_of, k_check_heaps, k_served_by, k_played, k_gone_in, k_turns_of, k_delays, k_greatest_delay, k_by_frame, k__law_bag, k__law_take, k__law_some, k__law_alike, k__law_streams, k__law_services, k__law_played, k__law_comes, k__law_heard, k_law, k_Lines__init, k_Lines__lines, k_Lines__turn, trivial⟩
theorem binds : AllP (fun d : DEnt => DBindsQ d.nm d.q d.st d.ps) ents := ⟨b_is_number, b_is_index, b_is_tuple_of, b_is_indexes, b_is_rows, b_checked_arrivals, b_comes_of, b_check_heaps, b_served_by, b_played, b_gone_in, b_turns_of, b_delays, b_greatest_delay, b_by_frame, b__law_bag, b__law_take, b__law_some, b__law_alike, b__law_streams, b__law_services, b__law_played, b__law_comes, b__law_heard, b_law, b_Lines__init, b_Lines__lines, b_Lines__turn, trivial⟩
theorem owns : ownB T ents = true := by decide +kernel
end My
set_option maxHeartbeats 4000000
namespace DI
open PySem
@[simp] theorem eqP_int {M : Store} {i j : Int} : eqP M (.int i) (.int j) = some (.bl (decide (i = j))) := by
  simp [eqP, datM, dat, SeqAt.shaped, PyData.eqv, PyData.canLay0, PyData.depth, Bool.beq_eq_decide_eq]
@[simp] theorem neP_int {M : Store} {i j : Int} : neP M (.int i) (.int j) = some (.bl (!decide (i = j))) := by
  simp [neP, datM, dat, SeqAt.shaped, PyData.eqv, PyData.canLay0, PyData.depth, Bool.beq_eq_decide_eq]
theorem while_gcdG {c : Ev Bool} {body : Ex} {M : Store} (mk : Nat → Nat → Sl) (hc : ∀ x y : Nat, c (mk x y) M = .ok (decide (y ≠ 0)) M) (hb : ∀ x y : Nat, y ≠ 0 → body (mk x y) M = .nx (mk y (x % y)) M) :
    ∀ (n x y : Nat), y ≤ n → whileR c body (mk x y) M = .nx (mk (Nat.gcd x y) 0) M
  | n, x, 0, _ => by
    rw [whileR_unfold]
    unfold whileK
    rw [hc, ofR_ok]
    simp
  | 0, x, y + 1, h => by omega
  | n + 1, x, y + 1, h => by
    have hm : x % (y + 1) ≤ n := by
      have h1 : x % (y + 1) < y + 1 := Nat.mod_lt x (Nat.succ_pos y)
      omega
    rw [whileR_unfold]
    unfold whileK
    rw [hc, ofR_ok, hb x (y + 1) (by omega)]
    simp only [ne_eq, Nat.add_eq_zero_iff, Nat.succ_ne_self, and_false, not_false_eq_true, decide_true, if_true]
    rw [while_gcdG mk hc hb n (y + 1) (x % (y + 1)) hm, Nat.gcd_comm x (y + 1), Nat.gcd_rec (y + 1) x, Nat.gcd_comm]
end DI
namespace My
open PySem DI
noncomputable def F (k : Nat) : Fns := Fn T (codesOf ents) k
theorem F_run {k f : Nat} {ar n : Nat} {nm : List Str} {body : CSs} {ps : List PV} {M : Store} (h : codesOf ents f = some ⟨ar, nm, body⟩) (h1 : ps.length = ar) (h2 : nm.length = ar + n) :
    F (k + 1) f ps M = runK M.length (exs T (F k) body (ps.map some ++ List.replicate n none) M) := Fn_run h h1 h2
theorem f_is_number_int (k : Nat) (i : Int) (M : Store) : F (k + 1) 0 [.int i] M = .ok (.bl true) M := by
  rw [F_run (n := 0) rfl rfl rfl]
  simp [biP, isinstF, tyNm]
theorem absI (i : Int) : (if i < 0 then -i else i) = (i.natAbs : Int) := by omega
theorem fmodN (x y : Nat) : (x : Int).fmod (y : Int) = ((x % y : Nat) : Int) := by
  rw [Int.fmod_eq_emod_of_nonneg _ (by omega)]
  rfl
@[simp] theorem asgK_name {i : Nat} {sp : Sl} {p : PV} {M : Store} : asgK (.name i) sp p M = if i < sp.length then .nx (sp.set i (some p)) M else .bad := by
  simp only [asgK, asg]
  by_cases h : i < sp.length
  · rw [if_pos h, if_pos h]
  · rw [if_neg h, if_neg h]
@[simp] theorem parK_two {i j : Nat} {sp : Sl} {p q : PV} {M : Store} : parK [i, j] sp [p, q] M = if i < sp.length ∧ j < sp.length then .nx ((sp.set i (some p)).set j (some q)) M else .bad := by
  simp only [parK, List.map_cons, List.map_nil, asgs, asg]
  by_cases h1 : i < sp.length
  · by_cases h2 : j < sp.length
    · simp [h1, h2]
    · simp [h1, h2]
  · simp [h1]
theorem fdiv_pos (a : Int) {g : Int} (h : 0 ≤ g) : a.fdiv g = a / g := Int.fdiv_eq_ediv_of_nonneg _ h
theorem smI_nat {n : Nat} (h : n < 2 ^ 64) : smI (n : Int) = true := by
  simp only [smI, Bool.and_eq_true, decide_eq_true_eq]
  omega
theorem mulOk_r {i j : Int} (h : smI j = true) : mulOk i j = true := by simp [mulOk, h]
theorem mulOk_l {i j : Int} (h : smI i = true) : mulOk i j = true := by simp [mulOk, h]
theorem log2_lt {n : Nat} (h : n < 2 ^ 128) : n.log2 < 9000 := by
  by_cases h0 : n = 0
  · subst h0; decide
  · have := Nat.log2_lt h0 |>.mpr h
    omega
theorem idx0 {M : Store} {a b : PV} : idxP M (.tup [a, b]) (.int 0) = some a := by simp [idxP, L2.atI, L2.ixN]
theorem idx1 {M : Store} {a b : PV} : idxP M (.tup [a, b]) (.int 1) = some b := by simp [idxP, L2.atI, L2.ixN]
theorem mul_ok {M : Store} {i j : Int} (h : mulOk i j = true) : mulP M (.int i) (.int j) = some (.int (i * j)) := by simp [mulP, h]
theorem blsOf_map {α : Type} (f : α → Bool) : ∀ l : List α, blsOf (l.map fun x => PV.bl (f x)) = some (l.map f)
  | [] => rfl
  | x :: l => by
    simp only [List.map_cons, blsOf, blsOf_map f l]
theorem rngIt_0 {n : Nat} (h : n ≤ 1000) : rngIt 0 (n : Int) = some ⟨rngL 0 1 n, []⟩ := by
  unfold rngIt
  have e0 : ((n : Int) - 0).toNat = n := by omega
  have hz : 1000 ≤ sizeLine := by decide
  rw [if_pos (by simp only [rngOk, Bool.and_eq_true, decide_eq_true_eq]; omega), e0]
/-! ### the bag -/
def bagV (b0 b1 b2 : Int) (cs : List Int) : List PV := [.int b0, .int b1, .int b2, .lst (cs.map .int)]
@[simp] theorem lst0 {xs : List PV} {R : Store} : lstAt (some (.lst xs) :: R) 0 = some xs := rfl
theorem iR0 {R : Store} {a b c d : PV} : idxP (some (.lst [a, b, c, d]) :: R) (.ref 0) (.int 0) = some a := by simp [idxP, L2.atI, L2.ixN]
theorem iR1 {R : Store} {a b c d : PV} : idxP (some (.lst [a, b, c, d]) :: R) (.ref 0) (.int 1) = some b := by simp [idxP, L2.atI, L2.ixN]
theorem iR2 {R : Store} {a b c d : PV} : idxP (some (.lst [a, b, c, d]) :: R) (.ref 0) (.int 2) = some c := by simp [idxP, L2.atI, L2.ixN]
theorem iR3 {R : Store} {a b c d : PV} : idxP (some (.lst [a, b, c, d]) :: R) (.ref 0) (.int 3) = some d := by simp [idxP, L2.atI, L2.ixN]
theorem sR0 {sp : Sl} {R : Store} {a b c d v : PV} : setK sp v (.ref 0) (.int 0) (some (.lst [a, b, c, d]) :: R) = .nx sp (some (.lst [v, b, c, d]) :: R) := by simp [setK, setP, L2.ixN]
theorem sR1 {sp : Sl} {R : Store} {a b c d v : PV} : setK sp v (.ref 0) (.int 1) (some (.lst [a, b, c, d]) :: R) = .nx sp (some (.lst [a, v, c, d]) :: R) := by simp [setK, setP, L2.ixN]
theorem sR2 {sp : Sl} {R : Store} {a b c d v : PV} : setK sp v (.ref 0) (.int 2) (some (.lst [a, b, c, d]) :: R) = .nx sp (some (.lst [a, b, v, d]) :: R) := by simp [setK, setP, L2.ixN]
theorem cut_from (xs : List PV) (n : Nat) : cutP xs (some n) none = xs.drop n := by
  unfold cutP
  rw [HT.sIx_nat, HT.sIx_none, List.take_of_length_le (by simp)]
  by_cases h : n ≤ xs.length
  · rw [Nat.min_eq_left h]
  · rw [Nat.min_eq_right (by omega), List.drop_length, List.drop_eq_nil_of_le (by omega)]
theorem sz1 : 1 ≤ sizeLine := by decide
def cellAt (cs : List Int) (n : Nat) : Int := (cs.drop n ++ [0]).headD 0
theorem idx_head (cs : List Int) {M : Store} : idxP M (.lst (cs.map .int ++ [.int 0])) (.int 0) = some (.int ((cs ++ [0]).headD 0)) := by
  cases cs with
  | nil => simp [idxP, L2.atI, L2.ixN]
  | cons c cs =>
    have h : (0 : Int) < (cs.length : Int) + 1 + 1 := by omega
    simp [idxP, L2.atI, L2.ixN, h]
@[simp] theorem gcM_cons {o : Option SObj} {R : Store} {ps : List PV} : gcM (R.length + 1) (o :: R) ps = o :: R := gcM_le (by simp)
/-- the law's bag gives a number below many and stays a bag -/
theorem f_take (k : Nat) (b0 b1 : Int) (n : Nat) (cs : List Int) (many : Int) (R : Store) (h0 : 0 ≤ b0) (h1 : 0 ≤ b1 ∧ b1 < 2147483647) (hm : 1 ≤ many) (hm2 : many < 1000000) (hl : cs.length ≤ 100) :
    ∃ (v c0 c1 : Int) (m : Nat), F (k + 1) 16 [.ref 0, .int many] (some (.lst (bagV b0 b1 n cs)) :: R) = .ok (.int v) (some (.lst (bagV c0 c1 m cs)) :: R) ∧ 0 ≤ v ∧ v < many ∧ 0 ≤ c0 ∧ 0 ≤ c1 ∧ c1 < 2147483647 := by
  have hne : ¬ many = 0 := by omega
  have hdv : divOk many = true := by
    simp only [divOk, Bool.and_eq_true, decide_eq_true_eq]
    refine ⟨hne, log2_lt ?_⟩
    omega
  by_cases hb : b0 = 0
  · subst hb
    have e1 : slcP (some (.lst [.int 0, .int b1, .int n, .lst (cs.map .int)]) :: R) (.lst (cs.map .int)) (some (n : Int)) none = some (.lst ((cs.map .int).drop n)) := by
      simp only [slcP, cut_from]
    have e2 : ∀ M : Store, idxP M (.lst ((cs.map .int).drop n ++ [.int 0])) (.int 0) = some (.int ((cs.drop n ++ [0]).headD 0)) := fun M => by rw [← List.map_drop]; exact idx_head _
    have e3 : cs.length - n + 1 ≤ sizeLine := by
      have : 101 ≤ sizeLine := by decide
      omega
    generalize (cs.drop n ++ [0]).headD 0 = cell at e2
    have m1 : mulOk b1 48271 = true := mulOk_r (by decide)
    have m2 : mulOk 7919 ((n : Int) + 1) = true := mulOk_l (by decide)
    have p1 : powP (some (SObj.lst [.int 0, .int b1, .int ((n : Int) + 1), .lst (cs.map .int)]) :: R) (.int 10) (.int 18) = some (.int 1000000000000000000) := by
      have : powOk 10 18 = true := by decide
      simp [powP, this]
    obtain ⟨c1, hc1⟩ : ∃ c1 : Int, (b1 * 48271 + cell.fmod 2147483647 + 7919 * ((n : Int) + 1)).fmod 2147483647 = c1 := ⟨_, rfl⟩
    have hc : 0 ≤ c1 ∧ c1 < 2147483647 := by
      rw [← hc1, Int.fmod_eq_emod_of_nonneg _ (by omega)]
      omega
    by_cases hcell : 1000000000000000000 ≤ cell
    · have hpos : 0 < cell := by omega
      refine ⟨cell.fmod many, cell.fdiv many, c1, n + 1, ?_, ?_, ?_, ?_, hc⟩
      · rw [F_run (n := 5) rfl rfl rfl]
        simp [bagV, iR0, iR1, iR2, iR3, cmpP, gtP, geP, hpos, biP, intF, binP, modP, divP, hne, hdv, sR0, sR1, sR2, e1, e2, e3, sz1, addP, isRef, augIK, augP, mul_ok m1, mul_ok m2, p1, hcell, hc1]
      · rw [Int.fmod_eq_emod_of_nonneg _ (by omega)]
        exact Int.emod_nonneg _ hne
      · rw [Int.fmod_eq_emod_of_nonneg _ (by omega)]
        exact Int.emod_lt_of_pos _ (by omega)
      · rw [fdiv_pos _ (by omega)]
        exact Int.ediv_nonneg (by omega) (by omega)
    · have m3 : mulOk (c1 + 1) 39373 = true := mulOk_r (by decide)
      obtain ⟨bg, hbg⟩ : ∃ bg : Int, ((c1 + 1) * 39373).fmod 1000000007 = bg := ⟨_, rfl⟩
      have hb2 : 0 ≤ bg ∧ bg < 1000000007 := by
        rw [← hbg, Int.fmod_eq_emod_of_nonneg _ (by omega)]
        omega
      have m4 : mulOk bg bg = true := mulOk_r (by simp only [smI, Bool.and_eq_true, decide_eq_true_eq]; omega)
      obtain ⟨sq, hsq⟩ : ∃ sq : Int, (bg * bg).fmod 998244353 = sq := ⟨_, rfl⟩
      have m5 : mulOk sq 30011 = true := mulOk_r (by decide)
      have d7 : divOk 7 = true := by decide
      refine ⟨(((sq * 30011).fmod 998244353).fdiv 7).fmod many, 0, c1, n + 1, ?_, ?_, ?_, Int.le_refl _, hc⟩
      · rw [F_run (n := 5) rfl rfl rfl]
        simp [bagV, iR0, iR1, iR2, iR3, cmpP, gtP, geP, biP, intF, binP, modP, divP, hne, hdv, sR0, sR1, sR2, e1, e2, e3, sz1, addP, isRef, augIK, augP, mul_ok m1, mul_ok m2, mul_ok m3, mul_ok m4, mul_ok m5, p1, hcell, hc1, hbg, hsq, d7]
      · rw [Int.fmod_eq_emod_of_nonneg _ (by omega)]
        exact Int.emod_nonneg _ hne
      · rw [Int.fmod_eq_emod_of_nonneg _ (by omega)]
        exact Int.emod_lt_of_pos _ (by omega)
  · have hpos : 0 < b0 := by omega
    refine ⟨b0.fmod many, b0.fdiv many, b1, n, ?_, ?_, ?_, ?_, h1⟩
    · rw [F_run (n := 5) rfl rfl rfl]
      simp [bagV, iR0, cmpP, gtP, hb, hpos, biP, intF, binP, modP, divP, hne, hdv, sR0]
    · rw [Int.fmod_eq_emod_of_nonneg _ (by omega)]
      exact Int.emod_nonneg _ hne
    · rw [Int.fmod_eq_emod_of_nonneg _ (by omega)]
      exact Int.emod_lt_of_pos _ (by omega)
    · rw [fdiv_pos _ (by omega)]
      exact Int.ediv_nonneg h0 (by omega)
/-- a store that begins with a bag -/
def Bag (R M : Store) : Prop := ∃ (b0 b1 : Int) (n : Nat) (cs : List Int), M = some (.lst (bagV b0 b1 n cs)) :: R ∧ 0 ≤ b0 ∧ (0 ≤ b1 ∧ b1 < 2147483647) ∧ cs.length ≤ 100
theorem b_take (k : Nat) {R M : Store} (h : Bag R M) (many : Int) (hm : 1 ≤ many) (hm2 : many < 1000000) : ∃ (v : Int) (M' : Store), F (k + 1) 16 [.ref 0, .int many] M = .ok (.int v) M' ∧ Bag R M' ∧ 0 ≤ v ∧ v < many := by
  obtain ⟨b0, b1, n, cs, rfl, h0, h1, hl⟩ := h
  obtain ⟨v, c0, c1, m, e, q1, q2, q3, q4, q5⟩ := f_take k b0 b1 n cs many R h0 h1 hm hm2 hl
  exact ⟨v, _, e, ⟨c0, c1, m, cs, rfl, q3, ⟨q4, q5⟩, hl⟩, q1, q2⟩
theorem atI_nat {α : Type} (xs : List α) {v : Int} (h0 : 0 ≤ v) (h1 : v < xs.length) : ∃ x, xs[v.toNat]? = some x ∧ L2.atI xs v = some x := by
  have hlt : v.toNat < xs.length := by omega
  refine ⟨xs[v.toNat], List.getElem?_eq_getElem hlt, ?_⟩
  have e : L2.ixN xs.length v = some v.toNat := by
    unfold L2.ixN
    rw [if_pos h0, if_pos h1]
  unfold L2.atI
  rw [e]
  exact List.getElem?_eq_getElem hlt
theorem b_some (k : Nat) {R M : Store} (h : Bag R M) (xs : List PV) (hx : 1 ≤ xs.length) (hx2 : xs.length < 1000000) : ∃ (x : PV) (M' : Store), F (k + 2) 17 [.ref 0, .lst xs] M = .ok x M' ∧ Bag R M' ∧ x ∈ xs := by
  obtain ⟨v, M', e, hb, h0, h1⟩ := b_take k h (xs.length : Int) (by omega) (by omega)
  obtain ⟨x, e1, e2⟩ := atI_nat xs h0 h1
  have e3 : idxP M' (.lst xs) (.int v) = some x := e2
  refine ⟨x, M', ?_, hb, List.mem_of_getElem? e1⟩
  obtain ⟨b0, b1, n, cs, rfl, _⟩ := h
  obtain ⟨c0, c1, m, cs', rfl, _⟩ := hb
  rw [F_run (n := 0) rfl rfl rfl]
  simp [biP, lenF, lenP, e, e3]
theorem cut_to (xs : List PV) (n : Nat) : cutP xs none (some n) = xs.take n := by
  unfold cutP
  rw [HT.sIx_nat, HT.sIx_none]
  simp
theorem f_bag (k : Nat) (ns : List Int) : ∃ M, F (k + 1) 15 [.scr ns] [] = .ok (.ref 0) M ∧ Bag [] M := by
  refine ⟨[some (.lst (bagV 0 1234567891 (0 : Nat) ((ns.take 63).map fun i => if i < 0 then -i else i)))], ?_, 0, 1234567891, 0, _, rfl, Int.le_refl _, by decide, by simp; omega⟩
  have e1 : slcP [] (.scr ns) none (some 63) = some (.lst ((ns.take 63).map .int)) := by
    have h := cut_to (ns.map .int) 63
    simp only [slcP]
    rw [show (63 : Int) = ((63 : Nat) : Int) from rfl, h, ← List.map_take]
  have e2 := compR_mapA (M := []) (step := stepC (.name 1) [1] (evC T (F k) none) (ev T (F k) (.callB .abs (.cons (.var 1) .nil))) [some (.scr ns), none]) (items := ns.take 63) PV.int (fun i : Int => .int (if i < 0 then -i else i)) fun x hx => by
    simp [stepC, asg, wipeP, biP, absF]
  generalize ns.take 63 = l at *
  rw [F_run (n := 1) rfl rfl rfl]
  have hs : 4 ≤ sizeLine := by decide
  simp [e1, seqIt, e2, hs, bagV]
  rfl
theorem rng0_map (n : Nat) : rngL 0 1 n = (List.range n).map fun j : Nat => PV.int (j : Int) := by
  unfold rngL
  simp
/-- n draws of `_law_some(bag, xs)` -/
theorem comp_some (k : Nat) {R M : Store} (h : Bag R M) (n : Nat) (xs : List PV) (hx : 1 ≤ xs.length) (hx2 : xs.length < 1000000) (step : PV → Store → Res (Option PV))
    (hs : ∀ (j : Nat) (M x M'), Bag R M → F (k + 2) 17 [.ref 0, .lst xs] M = .ok x M' → step (.int (j : Int)) M = .ok (some x) M') :
    ∃ ys M', compR [] step ((List.range n).map fun j : Nat => PV.int (j : Int)) M = .ok ys M' ∧ Bag R M' ∧ ys.length = n ∧ ∀ y ∈ ys, y ∈ xs := by
  obtain ⟨ys, M', e, hb, hl, hr⟩ := compR_st (fun j : Nat => PV.int (j : Int)) (Bag R) (fun _ y => y ∈ xs) (items := List.range n) (step := step) h fun j _ M hM => by
    obtain ⟨x, M', e, hb, hm⟩ := b_some k hM xs hx hx2
    exact ⟨x, M', hs j M x M' hM e, hb, hm⟩
  refine ⟨ys, M', e, hb, by simpa using hl, fun y hy => ?_⟩
  obtain ⟨i, hi, rfl⟩ := List.getElem_of_mem hy
  have hlt : i < (List.range n).length := by omega
  exact hr i ((List.range n)[i]) ys[i] (List.getElem?_eq_getElem hlt) (List.getElem?_eq_getElem hi)
theorem idx_get {M : Store} {xs : List PV} {a : Nat} {x : PV} (h : xs[a]? = some x) : idxP M (.tup xs) (.int (a : Int)) = some x := by
  have hlt : a < xs.length := (List.getElem?_eq_some_iff.mp h).1
  have e : L2.ixN xs.length (a : Int) = some a := by
    unfold L2.ixN
    rw [if_pos (by omega), if_pos (by omega), Int.toNat_natCast]
  simp only [idxP, L2.atI, e]
  exact h
theorem idx_getL {M : Store} {xs : List PV} {a : Nat} {x : PV} (h : xs[a]? = some x) : idxP M (.lst xs) (.int (a : Int)) = some x := by
  have hlt : a < xs.length := (List.getElem?_eq_some_iff.mp h).1
  have e : L2.ixN xs.length (a : Int) = some a := by
    unfold L2.ixN
    rw [if_pos (by omega), if_pos (by omega), Int.toNat_natCast]
  simp only [idxP, L2.atI, e]
  exact h
theorem lift_map {α : Type} (f : α → PV) (P : α → Prop) : ∀ ys : List PV, (∀ y ∈ ys, ∃ a, y = f a ∧ P a) → ∃ l : List α, ys = l.map f ∧ l.length = ys.length ∧ ∀ a ∈ l, P a
  | [], _ => ⟨[], rfl, rfl, by simp⟩
  | y :: ys, h => by
    obtain ⟨a, rfl, ha⟩ := h y List.mem_cons_self
    obtain ⟨l, rfl, h1, h2⟩ := lift_map f P ys fun z hz => h z (List.mem_cons_of_mem _ hz)
    refine ⟨a :: l, rfl, by simp, fun b hb => ?_⟩
    rcases List.mem_cons.mp hb with rfl | hb
    · exact ha
    · exact h2 b hb
theorem mem_of_R {α : Type} {items : List α} {ys : List PV} {Q : PV → Prop} (hl : ys.length = items.length) (h : ∀ (i : Nat) (x : α) (y : PV), items[i]? = some x → ys[i]? = some y → Q y) : ∀ y ∈ ys, Q y := by
  intro y hy
  obtain ⟨i, hi, rfl⟩ := List.getElem_of_mem hy
  have hlt : i < items.length := by omega
  exact h i items[i] ys[i] (List.getElem?_eq_getElem hlt) (List.getElem?_eq_getElem hi)
theorem bag_cons {R M : Store} (h : Bag R M) : ∃ b, M = b :: R := by
  obtain ⟨b0, b1, n, cs, rfl, _⟩ := h
  exact ⟨_, rfl⟩
end My
set_option maxHeartbeats 4000000
namespace My
open PySem DI
/-! ### steps of comprehensions, by slots -/
theorem w1_self {sp : Sl} {v : Nat} {x : Option PV} (hv : v < sp.length) : ((wipeP sp [v]).set v x)[v]? = some x := by
  rw [List.getElem?_set_self]
  simp [wipeP, hv]
theorem w1_ne {sp : Sl} {v i : Nat} {x : Option PV} (h : i ≠ v) : ((wipeP sp [v]).set v x)[i]? = sp[i]? := by
  simp only [wipeP]
  rw [List.getElem?_set_ne (Ne.symm h), List.getElem?_set_ne (Ne.symm h)]
theorem w1_len {sp : Sl} {v : Nat} {x : Option PV} : ((wipeP sp [v]).set v x).length = sp.length := by simp [wipeP]
theorem step1 {Γ : Fns} {sp : Sl} {v : Nat} {elt : CE} {x y : PV} {M M' : Store} (hv : v < sp.length) (he : ev T Γ elt ((wipeP sp [v]).set v (some x)) M = .ok y M') :
    stepC (.name v) [v] (evC T Γ none) (ev T Γ elt) sp x M = .ok (some y) M' := by
  have hw : (wipeP sp [v]).length = sp.length := by simp [wipeP]
  simp only [stepC, asg, evC_none, hw, if_pos hv]
  rw [he, bind_ok]
theorem step1f {Γ : Fns} {sp : Sl} {v : Nat} {cd elt : CE} {x y : PV} {b : Bool} {M : Store} (hv : v < sp.length) (hc : ev T Γ cd ((wipeP sp [v]).set v (some x)) M = .ok (.bl b) M) (he : b = true → ev T Γ elt ((wipeP sp [v]).set v (some x)) M = .ok y M) :
    stepC (.name v) [v] (evC T Γ (some cd)) (ev T Γ elt) sp x M = .ok (if b = true then some y else none) M := by
  have hw : (wipeP sp [v]).length = sp.length := by simp [wipeP]
  simp only [stepC, asg, evC_some, hw, if_pos hv]
  rw [hc, evTr_bl]
  cases b with
  | true =>
    dsimp only
    rw [he rfl, bind_ok]
    rfl
  | false => rfl
theorem step2 {Γ : Fns} {sp : Sl} {v w : Nat} {elt : CE} {x1 x2 y : PV} {M M' : Store} (hv : v < sp.length) (hw : w < sp.length) (he : ev T Γ elt (((wipeP sp [v, w]).set v (some x1)).set w (some x2)) M = .ok y M') :
    stepC (.tup [.name v, .name w]) [v, w] (evC T Γ none) (ev T Γ elt) sp (.tup [x1, x2]) M = .ok (some y) M' := by
  have hl : (wipeP sp [v, w]).length = sp.length := by simp [wipeP]
  simp only [stepC, asg, asgs, evC_none, hl, if_pos hv, List.length_set, if_pos hw]
  rw [he, bind_ok]
theorem w2_1 {sp : Sl} {v w : Nat} {x y : Option PV} (hv : v < sp.length) (h : v ≠ w) : (((wipeP sp [v, w]).set v x).set w y)[v]? = some x := by
  rw [List.getElem?_set_ne (Ne.symm h), List.getElem?_set_self]
  simp [wipeP, hv]
theorem w2_2 {sp : Sl} {v w : Nat} {x y : Option PV} (hw : w < sp.length) : (((wipeP sp [v, w]).set v x).set w y)[w]? = some y := by
  rw [List.getElem?_set_self]
  simp [wipeP, hw]
theorem w2_ne {sp : Sl} {v w i : Nat} {x y : Option PV} (h1 : i ≠ v) (h2 : i ≠ w) : (((wipeP sp [v, w]).set v x).set w y)[i]? = sp[i]? := by
  simp only [wipeP]
  rw [List.getElem?_set_ne (Ne.symm h2), List.getElem?_set_ne (Ne.symm h1), List.getElem?_set_ne (Ne.symm h1), List.getElem?_set_ne (Ne.symm h2)]
theorem w2_len {sp : Sl} {v w : Nat} {x y : Option PV} : (((wipeP sp [v, w]).set v x).set w y).length = sp.length := by simp [wipeP]
theorem ev_at {Γ : Fns} {sp : Sl} {i : Nat} {p : PV} {M : Store} (h : sp[i]? = some (some p)) : ev T Γ (.var i) sp M = .ok p M := slot_some h
/-! ### alike -/
theorem f_alike (k : Nat) (x : PV) (n : Nat) (h : Rsz x n) (hn : n ≤ 100000) (hc : cln 60 x = true) (M : Store) : F (k + 1) 18 [x, x] M = .ok (.bl true) M := by
  have hz : 100000 ≤ sizeLine := by decide
  obtain ⟨s, e1, e2⟩ := reprP_of (M := M) h hc (by omega)
  have e1' : biP .repr M [x] = some (.str s) := e1
  have e3 : eqP M (.str s) (.str s) = some (.bl true) := eqP_same (by simpa [cln] using e2)
  have e4 := eqP_same (M := M) hc
  rw [F_run (n := 0) rfl rfl rfl]
  simp [e1', e3, e4]
end My
set_option maxHeartbeats 4000000
namespace My
open PySem DI
/-! ### the tests of any plain value's form -/
def numB : PV → Bool
  | .int _ => true
  | _ => false
theorem num_shape {p : PV} (h : numB p = true) : ∃ a, p = .int a := by
  cases p <;> first | exact ⟨_, rfl⟩ | simp [numB] at h
theorem numB_eq (p : PV) : (isI p && !isB p) = numB p := by cases p <;> rfl
theorem num_any (k : Nat) {p : PV} (h : pl1 p = true) (M : Store) : F (k + 1) 0 [p] M = .ok (.bl (numB p)) M := by
  have e1 := isi_any (M := M) h
  have e2 := isb_any (M := M) h
  rw [F_run (n := 0) rfl rfl rfl, ← numB_eq]
  cases hi : isI p <;> simp [e1, e2, hi]
def idxB : PV → Bool
  | .int i => decide (0 ≤ i)
  | _ => false
theorem idx_any (k : Nat) {p : PV} (h : pl1 p = true) (M : Store) : F (k + 2) 1 [p] M = .ok (.bl (idxB p)) M := by
  have e := num_any k h M
  rw [F_run (n := 0) rfl rfl rfl]
  cases p <;> simp [numB] at e <;> simp [e, idxB]
theorem idx_nat (k n : Nat) (M : Store) : F (k + 2) 1 [.int (n : Int)] M = .ok (.bl true) M := by
  have h := idx_any k (p := .int (n : Int)) rfl M
  have h2 : idxB (.int (n : Int)) = true := by simp [idxB]
  rwa [h2] at h
theorem tupof (k f : Nat) (xs : List PV) (p : PV → Bool) (M : Store) (h : ∀ x ∈ xs, F k f [x] M = .ok (.bl (p x)) M) : F (k + 1) 2 [.tup xs, .fn f] M = .ok (.bl (xs.all p)) M := by
  have e := compR_map (step := stepC (.name 2) [2] (evC T (F k) none) (ev T (F k) (.callV 1 (.cons (.var 2) .nil))) [some (.tup xs), some (.fn f), none]) (M := M) (fun x => .bl (p x)) (items := xs) (fun x hx => by simp [stepC, asg, wipeP, h x hx])
  rw [F_run (n := 1) rfl rfl rfl]
  simp [e, biAll]
theorem tupof_no (k f : Nat) {p : PV} (h : pl1 p = true) (ht : isT p = false) (M : Store) : F (k + 1) 2 [p, .fn f] M = .ok (.bl false) M := by
  have e := ist_any (M := M) h
  rw [F_run (n := 1) rfl rfl rfl]
  simp [e, ht]
def allT (q : PV → Bool) : PV → Bool
  | .tup xs => xs.all q
  | _ => false
theorem tupof_any (k f : Nat) (q : PV → Bool) {n : Nat} {p : PV} (h : ply (n + 1) p = true) (M : Store) (hq : ∀ x, ply n x = true → F k f [x] M = .ok (.bl (q x)) M) : F (k + 1) 2 [p, .fn f] M = .ok (.bl (allT q p)) M := by
  by_cases ht : isT p = true
  · cases p with
    | tup xs => exact tupof k f xs q M fun x hx => hq x (ply_un h x hx)
    | _ => simp [isT] at ht
  · have ht : isT p = false := by simpa using ht
    have e := tupof_no k f (ply_pl1 h) ht M
    rw [e]
    cases p <;> first | rfl | simp [isT] at ht
theorem idxs_any (k : Nat) {n : Nat} {p : PV} (h : ply (n + 1) p = true) (M : Store) : F (k + 4) 3 [p] M = .ok (.bl (allT idxB p)) M := by
  have e := tupof_any (k + 2) 1 idxB h M fun x hx => idx_any k (ply_pl1 hx) M
  rw [F_run (n := 0) rfl rfl rfl]
  simp [e]
theorem rows_any (k : Nat) {n : Nat} {p : PV} (h : ply (n + 2) p = true) (M : Store) : F (k + 6) 4 [p] M = .ok (.bl (allT (allT idxB) p)) M := by
  have e := tupof_any (k + 4) 3 (allT idxB) h M fun x hx => idxs_any k hx M
  rw [F_run (n := 0) rfl rfl rfl]
  simp [e]
/-! ### values without places -/
mutual
theorem ply_okRef : ∀ (p : PV) (n m : Nat), ply n p = true → okRef m p = true
  | .non, _, _, _ => rfl
  | .bl b, _, _, _ => rfl
  | .int i, _, _, _ => rfl
  | .str s, _, _, _ => rfl
  | .tup xs, 0, _, h => by simp [ply] at h
  | .lst xs, 0, _, h => by simp [ply] at h
  | .tup xs, n + 1, m, h => by
    unfold ply at h
    unfold okRef
    exact plys_okRefs xs n m h
  | .lst xs, n + 1, m, h => by
    unfold ply at h
    unfold okRef
    exact plys_okRefs xs n m h
  | .ref b, n, _, h => by simp [ply] at h
  | .fn b, n, _, h => by simp [ply] at h
  | .ty b, n, _, h => by simp [ply] at h
  | .scr b, n, _, h => by simp [ply] at h
theorem plys_okRefs : ∀ (ps : List PV) (n m : Nat), plys n ps = true → okRefs m ps = true
  | [], _, _, _ => rfl
  | p :: ps, n, m, h => by
    unfold plys at h
    unfold okRefs
    obtain ⟨h1, h2⟩ := Bool.and_eq_true_iff.mp h
    rw [ply_okRef p n m h1, plys_okRefs ps n m h2]
    rfl
end
theorem gcA {M L : Store} {p : PV} {n : Nat} (hM : okS M) (h : ply n p = true) : gcM M.length (M ++ L) [p] = M := gcM_app hM (by
  unfold okRefs okRefs
  rw [ply_okRef p n _ h]
  rfl)
/-- what a store holds, without places -/
def O0 (o : Option SObj) : Prop := ∀ n, okObj n o = true
theorem O0.lst {xs : List PV} {n : Nat} (h : ∀ x ∈ xs, ply n x = true) : O0 (some (.lst xs)) := fun m => by
  unfold okObj
  exact plys_okRefs xs n m (plys_all h)
theorem O0.none : O0 none := fun m => rfl
def OS (M : Store) : Prop := ∀ o ∈ M, O0 o
theorem OS.ok {M : Store} (h : OS M) : okS M := List.all_eq_true.mpr fun o ho => h o ho _
theorem OS.app {M : Store} {o : Option SObj} (h : OS M) (ho : O0 o) : OS (M ++ [o]) := fun x hx => by
  rcases List.mem_append.mp hx with hx | hx
  · exact h x hx
  · rw [List.mem_singleton.mp hx]; exact ho
theorem OS.cons {M : Store} {o : Option SObj} (h : OS M) (ho : O0 o) : OS (o :: M) := fun x hx => by
  rcases List.mem_cons.mp hx with rfl | hx
  · exact ho
  · exact h x hx
theorem OS.nil : OS [] := fun x hx => by cases hx
theorem bag_O0 (b0 b1 b2 : Int) (cs : List Int) : O0 (some (.lst (bagV b0 b1 b2 cs))) := O0.lst (n := 1) fun x hx => by
  simp only [bagV, List.mem_cons, List.not_mem_nil, or_false] at hx
  rcases hx with rfl | rfl | rfl | rfl
  · rfl
  · rfl
  · rfl
  · exact ply_lst fun y hy => by
      obtain ⟨i, _, rfl⟩ := List.mem_map.mp hy
      simp [ply]
theorem bag_OS {R M : Store} (h : Bag R M) (hR : OS R) : OS M := by
  obtain ⟨b0, b1, n, cs, rfl, _⟩ := h
  exact hR.cons (bag_O0 _ _ _ _)
theorem bag_len {R M : Store} (h : Bag R M) : M.length = R.length + 1 := by
  obtain ⟨b0, b1, n, cs, rfl, _⟩ := h
  rfl
/-- a bag beside what is new -/
theorem Bag.app {R M : Store} {o : Option SObj} (h : Bag R M) : Bag (R ++ [o]) (M ++ [o]) := by
  obtain ⟨b0, b1, n, cs, rfl, h⟩ := h
  exact ⟨b0, b1, n, cs, rfl, h⟩
theorem Bag.unapp {R M : Store} {o : Option SObj} (h : Bag (R ++ [o]) M) : ∃ M0, M = M0 ++ [o] ∧ Bag R M0 := by
  obtain ⟨b0, b1, n, cs, rfl, h⟩ := h
  exact ⟨_, rfl, b0, b1, n, cs, rfl, h⟩
theorem gcB {R M M' : Store} {ps : List PV} (h : Bag R M) (h' : Bag R M') : gcM M.length M' ps = M' := gcM_le (by rw [bag_len h, bag_len h']; exact Nat.le_refl _)
theorem w_take (k : Nat) {R M : Store} (h : Bag R M) (many : Int) (hm : 1 ≤ many) (hm2 : many < 1000000) {K : PV → Store → Prop} {X : Exc → Store → Prop} (hk : ∀ (v : Nat) (M' : Store), Bag R M' → (v : Int) < many → K (.int (v : Int)) M') : WF (Fn T (codesOf ents) (k + 1)) 16 [.ref 0, .int many] M K X := by
  obtain ⟨v, M', e, hb, h0, h1⟩ := b_take k h many hm hm2
  refine WF.ok e ?_
  obtain ⟨n, rfl⟩ : ∃ n : Nat, v = (n : Int) := ⟨v.toNat, by omega⟩
  exact hk n M' hb h1
theorem w_some (k : Nat) {R M : Store} (h : Bag R M) (xs : List PV) (hx : 1 ≤ xs.length) (hx2 : xs.length < 1000000) {K : PV → Store → Prop} {X : Exc → Store → Prop} (hk : ∀ (x : PV) (M' : Store), Bag R M' → x ∈ xs → K x M') : WF (Fn T (codesOf ents) (k + 2)) 17 [.ref 0, .lst xs] M K X := by
  obtain ⟨v, M', e, hb, h0⟩ := b_some k h xs hx hx2
  exact WF.ok e (hk v M' hb h0)
theorem rng_get {n j x : Nat} (h : (List.range n)[j]? = some x) : x = j ∧ j < n := by
  obtain ⟨h1, h2⟩ := List.getElem?_eq_some_iff.mp h
  rw [List.getElem_range] at h2
  rw [List.length_range] at h1
  exact ⟨h2.symm, h1⟩
theorem eq_c {M : Store} {p q : PV} {P : Prop} [Decidable P] (hp : cln 60 p = true) (hq : cln 60 q = true) (h : p = q ↔ P) : eqP M p q = some (.bl (decide P)) := by
  obtain ⟨b, e, _, hb⟩ := eqP_cln (M := M) hp hq
  rw [e]
  have : b = decide P := by
    rw [Bool.eq_iff_iff, hb, h, decide_eq_true_eq]
  rw [this]
theorem ne_c {M : Store} {p q : PV} {P : Prop} [Decidable P] (hp : cln 60 p = true) (hq : cln 60 q = true) (h : p = q ↔ P) : neP M p q = some (.bl (!decide P)) := by
  obtain ⟨b, _, e, hb⟩ := eqP_cln (M := M) hp hq
  rw [e]
  have : b = decide P := by
    rw [Bool.eq_iff_iff, hb, h, decide_eq_true_eq]
  rw [this]
end My
set_option maxHeartbeats 4000000
local macro_rules | `(tactic| sizeOf_list_dec) => `(tactic| first | exact And.intro rfl DI.gcM_self | exact And.intro trivial DI.gcM_self | exact And.intro rfl rfl | refine DI.WE.var (by exact rfl) ?_ | refine DI.WES.cons ?_ | refine DI.WES.nil ?_ | refine DI.WE.int ?_ | refine DI.WE.call ?_ | refine DI.WE.callB ?_ | refine DI.WE.bin ?_ | refine DI.WE.idx ?_ | refine DI.WE.cmp ?_ | refine DI.WSET.s ?_ | refine DI.WSET.z ?_ | refine DI.WS.cons ?_ | refine DI.WS.nil ?_ | refine DI.W1.asgn ?_ | refine DI.W1.ite ?_ | refine DI.W1.ret ?_ | refine DI.W1.expr ?_ | refine DI.W1.asgt ?_ | refine DI.W1.par ?_ | refine DI.W1.asgc ?_ | refine DI.W1.forS ?_ | refine DI.W1.raise ?_ | refine DI.W1.retN ?_ | refine DI.W1.pass ?_ | refine DI.W1.cnt ?_ | refine DI.W1.brk ?_ | refine DI.W1.tryS ?_ | refine DI.W1.aug (by exact rfl) ?_ | refine DI.WE.tup ?_ | refine DI.WE.lst ?_ | refine DI.WE.lstR ?_ | refine DI.WE.non ?_ | refine DI.WE.bl ?_ | refine DI.WE.str ?_ | refine DI.WE.fn ?_ | refine DI.WE.bty ?_ | refine DI.WE.glob (by exact rfl) ?_ | refine DI.WE.neg ?_ | refine DI.WE.not ?_ | refine DI.WE.cmp2 ?_ | refine DI.WE.and1 ?_ | refine DI.WE.andc ?_ | refine DI.WE.or1 ?_ | refine DI.WE.orc ?_ | refine DI.WE.ife ?_ | refine DI.WE.slc ?_ | refine DI.WE.callV (by exact rfl) ?_ | refine DI.WE.appv (by exact rfl) DI.lstAt_last ?_ | refine DI.WE.sset ?_ | refine DI.WE.srt ?_ | refine DI.WE.rev ?_ | refine DI.WE.index ?_ | refine DI.OP.revT ?_ | refine DI.OP.revL ?_ | refine DI.WE.comp ?_ | refine DI.WE.frzl (by exact rfl) ?_ | refine DI.WE.heard (by exact rfl) ?_ | refine DI.WES.star ?_ | refine DI.STAR.t ?_ | refine DI.STAR.l ?_ | refine DI.WO.none ?_ | refine DI.WO.some ?_ | refine DI.NI.of ?_ | refine DI.WASG.n ?_ | refine DI.WASG.tu ?_ | refine DI.WASGS.cons ?_ | refine DI.WASGS.nil ?_ | refine DI.WIPE.cons ?_ | refine DI.WIPE.nil ?_ | refine DI.NB.of ?_ | refine DI.IFB.tt ?_ | refine DI.IFB.ff ?_ | refine DI.IFB.not ?_ | refine DI.IFB.pos (by assumption) ?_ | refine DI.IFB.neg (by assumption) ?_ | refine DI.IFB.dpos (by assumption) ?_ | refine DI.IFB.dneg (by assumption) ?_ | refine DI.WI.seq ?_ | refine DI.WI.enum ?_ | refine DI.WI.zip ?_ | refine DI.WI.zip3 ?_ | refine DI.WI.rng1 ?_ | refine DI.WI.rng2 ?_ | refine DI.WI.rng3 ?_ | refine DI.ITS.t ?_ | refine DI.ITS.l ?_ | refine DI.ITS.rl ?_ | refine DI.RNG.nat (by omega) ?_ | refine DI.SZ.lit (by exact rfl) ?_ | refine DI.SZ.of (by assumption) ?_ | refine DI.OP.idx0 ?_ | refine DI.OP.idx1 ?_ | refine DI.OP.idx2 ?_ | refine DI.OP.idx0L ?_ | refine DI.OP.idxT (by assumption) ?_ | refine DI.OP.idxL (by assumption) ?_ | refine DI.OP.add ?_ | refine DI.OP.sub ?_ | refine DI.OP.mul (by assumption) ?_ | refine DI.OP.fdiv (by assumption) ?_ | refine DI.OP.fmod (by assumption) ?_ | refine DI.OP.neg ?_ | refine DI.OP.eqI ?_ | refine DI.OP.neI ?_ | refine DI.OP.lt ?_ | refine DI.OP.le ?_ | refine DI.OP.gt ?_ | refine DI.OP.ge ?_ | refine DI.OP.isN ?_ | refine DI.OP.isNN ?_ | refine DI.OP.isB ?_ | refine DI.OP.isNB ?_ | refine DI.OP.lenT ?_ | refine DI.OP.lenL ?_ | refine DI.OP.lenRl ?_ | refine DI.OP.abs ?_ | refine DI.OP.int ?_ | refine DI.OP.tupT ?_ | refine DI.OP.tupL ?_ | refine DI.OP.tupRl ?_ | refine DI.OP.lstT ?_ | refine DI.OP.lstL ?_ | refine DI.OP.min2 ?_ | refine DI.OP.max2 ?_ | refine DI.OP.sum _ ?_ | refine DI.OP.sumT _ ?_ | refine DI.OP.sumM _ _ ?_ | refine DI.OP.all _ _ ?_ | refine DI.OP.any _ _ ?_ | refine DI.OP.fromT ?_ | refine DI.OP.toT ?_ | refine DI.OP.fromL ?_ | refine DI.OP.toL ?_ | refine DI.OP.ftT ?_ | refine DI.OP.ftL ?_ | refine DI.OP.augA ?_ | refine DI.OP.augS ?_ | refine DI.OP.addT (by assumption) ?_ | refine DI.OP.addL (by assumption) ?_ | refine DI.OP.mulT1 (by omega) ?_ | refine DI.OP.mulL1 (by omega) ?_ | refine DI.WF.okE (by assumption) ?_ | refine DI.WF.excE (by assumption) ?_ | refine DI.OP.ofE (by assumption) ?_ | refine DI.SZ.of (by have hz : 10000000 ≤ PySem.sizeLine := (by decide); (try simp only [List.length_cons, List.length_append, List.length_map, List.length_nil, List.length_range, List.length_zip, List.length_replicate, List.length_take, List.length_drop]); omega) ?_ | refine DI.APP.lst0 (by have hz : 10000000 ≤ PySem.sizeLine := (by decide); (try simp only [List.length_cons, List.length_append, List.length_map, List.length_nil, List.length_range, List.length_zip, List.length_replicate, List.length_take, List.length_drop]); omega) ?_ | refine DI.OP.addT (by have hz : 10000000 ≤ PySem.sizeLine := (by decide); (try simp only [List.length_cons, List.length_append, List.length_map, List.length_nil, List.length_range, List.length_zip, List.length_replicate, List.length_take, List.length_drop]); omega) ?_ | refine DI.OP.addL (by have hz : 10000000 ≤ PySem.sizeLine := (by decide); (try simp only [List.length_cons, List.length_append, List.length_map, List.length_nil, List.length_range, List.length_zip, List.length_replicate, List.length_take, List.length_drop]); omega) ?_ | refine DI.IFB.dneg (by omega) ?_ | refine DI.IFB.dpos (by omega) ?_ | refine DI.RNG.of (by omega) ?_)
namespace My
open PySem DI
theorem getI (c : List Int) {x n : Nat} (h : n ≤ c.length) (hx : x < n) : (c.map PV.int)[x]? = some (.int (c.getD x 0)) := by
  rw [List.getElem?_map, List.getD_eq_getElem?_getD, List.getElem?_eq_getElem (by omega)]
  rfl
theorem take_succ {α β : Type} {l : List α} {j : Nat} {x : α} (f : α → β) (h : l[j]? = some x) : (l.take (j + 1)).map f = (l.take j).map f ++ [f x] := by
  rw [List.take_succ, h, List.map_append]
  rfl
def rowsV (rs : List (List Int)) : PV := .tup (rs.map tupI)
theorem ply_tupI (k : List Int) (n : Nat) : ply (n + 1) (tupI k) = true := ply_tup fun x hx => by
  obtain ⟨c, _, rfl⟩ := List.mem_map.mp hx
  simp [ply]
theorem ply_rows (rs : List (List Int)) (n : Nat) : ply (n + 2) (rowsV rs) = true := ply_tup fun x hx => by
  obtain ⟨c, _, rfl⟩ := List.mem_map.mp hx
  exact ply_tupI _ _
theorem cln_rows (rs : List (List Int)) : cln 60 (rowsV rs) = true := cln_tup (n := 59) fun x hx => by
  obtain ⟨c, _, rfl⟩ := List.mem_map.mp hx
  exact cln_tupI _ _
def NN (rs : List (List Int)) : Prop := ∀ r ∈ rs, ∀ i ∈ r, 0 ≤ i
theorem isrows (rs : List (List Int)) (h : NN rs) : allT (allT idxB) (rowsV rs) = true := by
  show (rs.map tupI).all (allT idxB) = true
  rw [List.all_eq_true]
  intro x hx
  obtain ⟨r, hr, rfl⟩ := List.mem_map.mp hx
  show (r.map PV.int).all idxB = true
  rw [List.all_eq_true]
  intro y hy
  obtain ⟨i, hi, rfl⟩ := List.mem_map.mp hy
  simp [idxB, h r hr i hi]
theorem w_takeA (k : Nat) {R M : Store} {o : Option SObj} (h : Bag R M) (many : Int) (hm : 1 ≤ many) (hm2 : many < 1000000) {K : PV → Store → Prop} {X : Exc → Store → Prop} (hk : ∀ (v : Nat) (M' : Store), Bag R M' → (v : Int) < many → K (.int (v : Int)) (M' ++ [o])) : WF (Fn T (codesOf ents) (k + 1)) 16 [.ref 0, .int many] (M ++ [o]) K X :=
  w_take k h.app many hm hm2 fun v M' hb hv => by
    obtain ⟨M1, rfl, hb1⟩ := hb.unapp
    exact hk v M1 hb1 hv
theorem WE.appB {T : Tab} {Γ : Fns} {sp : Sl} {R M0 : Store} {e : CE} {i : Nat} {xs : List PV} {K : PV → Store → Prop} {X : Exc → Store → Prop} (hb : Bag R M0) (hv : sp[i]? = some (some (.ref (R.length + 1))))
    (h : WE T Γ e sp (M0 ++ [some (.lst xs)]) (fun q M2 => APP (M0 ++ [some (.lst xs)]) M2 (.ref (R.length + 1)) q fun M3 => K .non M3) X) : WE T Γ (.meth .append (.var i) (.cons e .nil)) sp (M0 ++ [some (.lst xs)]) K X :=
  WE.appv hv (by rw [← bag_len hb]; exact lstAt_last) h
theorem APP.B {R M0 M1 : Store} {xs ys : List PV} {q : PV} {k : Store → Prop} (hb : Bag R M0) (hb1 : Bag R M1) (hl : xs.length < sizeLine) (h : k (M1 ++ [some (.lst (xs ++ [q]))])) : APP (M0 ++ [some (.lst ys)]) (M1 ++ [some (.lst xs)]) (.ref (R.length + 1)) q k := by
  rw [← bag_len hb1]
  exact APP.last (by rw [bag_len hb, bag_len hb1]) hl h
theorem gcBA {R M' : Store} {o : Option SObj} {p : PV} {n : Nat} (h' : Bag R M') (hR : OS R) (hp : ply n p = true) : gcM (R.length + 1) (M' ++ [o]) [p] = M' := by
  rw [← bag_len h']
  exact gcA (bag_OS h' hR).ok hp
theorem w_streams (k : Nat) {R M : Store} (h : Bag R M) {K : PV → Store → Prop} {X : Exc → Store → Prop} (hk : ∀ (ss : List PV) (M' : Store), Bag R M' → 1 ≤ ss.length → ss.length ≤ 3 → K (.tup ss) M') : WF (Fn T (codesOf ents) (k + 2)) 19 [.ref 0, .int 3] M K X := by
  refine WF.run_ (n := 0) rfl rfl rfl ?_; (simp only [List.map_cons, List.map_nil, List.replicate, List.cons_append, List.nil_append, List.append_nil])
  (repeat (first | sizeOf_list_dec))
  refine w_take k h 3 (by omega) (by omega) fun v M' hb hv => ?_
  (repeat (first | sizeOf_list_dec))
  rw [gcB h hb]
  exact hk _ _ hb (by simp; omega) (by simp; omega)
theorem insT_mem {B : Int} {x : List Int} : ∀ {l : List (List Int)} {y : List Int}, y ∈ insT B x l → y = x ∨ y ∈ l
  | [], y, h => by simp [insT] at h; exact .inl h
  | z :: r, y, h => by
    unfold insT at h
    split at h
    · rcases List.mem_cons.mp h with q | q
      · exact .inl q
      · exact .inr q
    · split at h
      · exact .inr h
      · rcases List.mem_cons.mp h with q | q
        · exact .inr (by rw [q]; exact List.mem_cons_self)
        · rcases insT_mem q with q | q
          · exact .inl q
          · exact .inr (List.mem_cons_of_mem _ q)
theorem insT_ne {B : Int} {x : List Int} : ∀ {l : List (List Int)}, insT B x l ≠ []
  | [] => by simp [insT]
  | z :: r => by
    unfold insT
    split
    · simp
    · split <;> simp
theorem insT_len {B : Int} {x : List Int} : ∀ {l : List (List Int)}, (insT B x l).length ≤ l.length + 1
  | [] => by simp [insT]
  | z :: r => by
    have := insT_len (B := B) (x := x) (l := r)
    unfold insT
    split
    · simp
    · split
      · simp
      · simp; omega
theorem sortT_mem {B : Int} : ∀ {l : List (List Int)} {y : List Int}, y ∈ sortT B l → y ∈ l
  | [], y, h => by simp [sortT] at h
  | x :: r, y, h => by
    unfold sortT at h
    rcases insT_mem h with q | q
    · rw [q]; exact List.mem_cons_self
    · exact List.mem_cons_of_mem _ (sortT_mem q)
theorem sortT_ne {B : Int} {l : List (List Int)} (h : l ≠ []) : sortT B l ≠ [] := by
  cases l with
  | nil => exact absurd rfl h
  | cons x r => unfold sortT; exact insT_ne
theorem sortT_len {B : Int} : ∀ {l : List (List Int)}, (sortT B l).length ≤ l.length
  | [] => by simp [sortT]
  | x :: r => by
    have h1 := sortT_len (B := B) (l := r)
    have h2 := insT_len (B := B) (x := x) (l := sortT B r)
    unfold sortT
    simp
    omega
theorem intTups_map : ∀ ks : List (List Int), intTups (ks.map tupI) = some ks
  | [] => rfl
  | k :: ks => by
    simp only [List.map_cons, tupI, intTups, intsOf_m]
    rw [intTups_map ks]
theorem sset_of {M : Store} {ks : List (List Int)} {m : Nat} (hne : ks ≠ []) (hm : 1 ≤ m) (hl : ks.length < 64) (h : ∀ k ∈ ks, k.length = m ∧ ∀ i ∈ k, 0 ≤ i ∧ i ≤ 3) : ssetP M (.lst (ks.map tupI)) = some (.lst ((sortT srtB ks).map tupI)) := by
  unfold ssetP
  have hi : itemsL M (.lst (ks.map tupI)) = some (ks.map tupI) := rfl
  rw [hi]
  simp only [intTups_map]
  have hd : (ks.headD [0]).length = m := by
    cases ks with
    | nil => exact absurd rfl hne
    | cons k r => exact (h k List.mem_cons_self).1
  rw [hd, if_pos]
  · rfl
  · rw [decide_eq_true hm, decide_eq_true hl, Bool.true_and, Bool.true_and, List.all_eq_true]
    intro k hk
    obtain ⟨h1, h2⟩ := h k hk
    unfold bdB srtB
    rw [decide_eq_true h1, Bool.true_and, List.all_eq_true]
    intro i hi
    have := h2 i hi
    rw [decide_eq_true (by omega), decide_eq_true (by omega)]
    rfl
/-- services as the law draws them -/
structure SvOk (m : Nat) (sv : List (List Int)) : Prop where
  ne : 1 ≤ sv.length
  few : sv.length ≤ 4
  len : ∀ r ∈ sv, r.length = m
  nn : ∀ r ∈ sv, ∀ v ∈ r, 0 ≤ v ∧ v ≤ 3
theorem w_services (k : Nat) {R M : Store} (h : Bag R M) (ss : List PV) (h1 : 1 ≤ ss.length) (h3 : ss.length ≤ 3) {K : PV → Store → Prop} {X : Exc → Store → Prop} (hk : ∀ (sv : List (List Int)) (M' : Store), Bag R M' → SvOk ss.length sv → K (rowsV sv) M') : WF (Fn T (codesOf ents) (k + 4)) 20 [.ref 0, .tup ss, .int 4] M K X := by
  refine WF.run_ (n := 3) rfl rfl rfl ?_; (simp only [List.map_cons, List.map_nil, List.replicate, List.cons_append, List.nil_append, List.append_nil])
  (repeat (first | sizeOf_list_dec))
  refine w_take (k + 2) h 4 (by omega) (by omega) fun v M1 hb hv => ?_
  (repeat (first | sizeOf_list_dec))
  refine CMP.st (Bag R) (fun _ y => ∃ l : List Int, y = tupI l ∧ (l.length = ss.length ∧ ∀ i ∈ l, 0 ≤ i ∧ i ≤ 3)) _ hb (fun x _ M hM => ?_) fun ys M2 hb2 hl hR => ?_
  · (repeat (first | sizeOf_list_dec))
    rw [← List.map_id ss]
    refine CMP.st (Bag R) (fun _ y => ∃ i : Int, y = .int i ∧ (0 ≤ i ∧ i ≤ 3)) id hM (fun x _ M hM => ?_) fun ys M3 hb3 hl hR => ?_
    · (repeat (first | sizeOf_list_dec))
      refine w_some (k + 1) hM _ (by simp) (by simp) fun x M4 hb4 hx => ?_
      refine ⟨hb4, ?_⟩
      simp only [List.mem_cons, List.not_mem_nil, or_false] at hx
      rcases hx with rfl | rfl | rfl | rfl | rfl | rfl <;> exact ⟨_, rfl, by omega, by omega⟩
    · obtain ⟨l, rfl, g1, g2⟩ := lift_map PV.int (fun i => 0 ≤ i ∧ i ≤ 3) ys (mem_of_R hl fun i x y a b => hR i x y a b)
      (repeat (first | sizeOf_list_dec))
      exact ⟨hb3, l, rfl, by rw [g1, hl]; simp, g2⟩
  · obtain ⟨ks, rfl, hkl, hk2⟩ := lift_map tupI (fun l : List Int => l.length = ss.length ∧ ∀ i ∈ l, 0 ≤ i ∧ i ≤ 3) ys (mem_of_R hl fun i x y a b => hR i x y a b)
    rw [hl, List.length_range] at hkl
    have hne : ks ≠ [] := fun z => by
      rw [z] at hkl
      simp at hkl
      omega
    have e3 : OEQ (ssetP M2 (.lst (ks.map tupI))) (.lst ((sortT srtB ks).map tupI)) := ⟨sset_of hne h1 (by omega) hk2⟩
    have hlen := sortT_len (B := srtB) (l := ks)
    (repeat (first | refine OP.ofE e3 ?_ | sizeOf_list_dec))
    rw [gcB h hb2]
    exact hk _ _ hb2 ⟨List.length_pos_iff.mpr (sortT_ne hne), by omega, fun s hs => (hk2 s (sortT_mem hs)).1, fun s hs => (hk2 s (sortT_mem hs)).2⟩
/-- what a turn of this number serves of this stream -/
def svA (sv : List (List Int)) (k n : Nat) : Int := (sv.getD n []).getD k 0
section
variable {m : Nat} {sv : List (List Int)} {f : List Nat}
theorem row_get {n : Nat} (h : n < sv.length) : (sv.map tupI)[n]? = some (tupI (sv.getD n [])) := by
  rw [List.getElem?_map, List.getD_eq_getElem?_getD, List.getElem?_eq_getElem h]
  rfl
theorem row_mem {n : Nat} (h : n < sv.length) : sv.getD n [] ∈ sv := by
  rw [List.getD_eq_getElem?_getD, List.getElem?_eq_getElem h]
  exact List.getElem_mem h
theorem SvOk.get (h : SvOk m sv) {n k : Nat} (hn : n < sv.length) (hk : k < m) : ((sv.getD n []).map PV.int)[k]? = some (.int (svA sv k n)) :=
  getI _ (Nat.le_refl _) (by rw [h.len _ (row_mem hn)]; exact hk)
theorem SvOk.a (h : SvOk m sv) {n k : Nat} (hn : n < sv.length) (hk : k < m) : 0 ≤ svA sv k n ∧ svA sv k n ≤ 3 := by
  refine h.nn _ (row_mem hn) _ ?_
  have hl : k < (sv.getD n []).length := by rw [h.len _ (row_mem hn)]; exact hk
  unfold svA
  rw [List.getD_eq_getElem?_getD (l := sv.getD n []), List.getElem?_eq_getElem hl]
  exact List.getElem_mem hl
theorem e_row (h : n < sv.length) (M : Store) : OEQ (idxP M (rowsV sv) (.int (n : Int))) (tupI (sv.getD n [])) := ⟨idx_getT' (row_get h)⟩
theorem e_col (h : SvOk m sv) {n k : Nat} (hn : n < sv.length) (hk : k < m) (M : Store) : OEQ (idxP M (tupI (sv.getD n [])) (.int (k : Int))) (.int (svA sv k n)) := ⟨idx_getT' (h.get hn hk)⟩
theorem e_row0 (h : SvOk m sv) (M : Store) : OEQ (idxP M (rowsV sv) (.int 0)) (tupI (sv.getD 0 [])) := e_row (n := 0) h.ne M
theorem e_len0 (h : SvOk m sv) (M : Store) : OEQ (biP .len M [tupI (sv.getD 0 [])]) (.int (m : Int)) := ⟨by
  have := h.len _ (row_mem h.ne)
  show some (PV.int (((sv.getD 0 []).map PV.int).length : Int)) = _
  rw [List.length_map, this]⟩
theorem e_lenS (sv : List (List Int)) (M : Store) : OEQ (biP .len M [rowsV sv]) (.int (sv.length : Int)) := ⟨by
  show some (PV.int ((sv.map tupI).length : Int)) = _
  rw [List.length_map]⟩
end
theorem f_alikeP (k : Nat) (x : PV) (n : Nat) (h : Rsz x n) (hn : n ≤ 100000) (hc : ply 60 x = true) (M : Store) : FEQ (Fn T (codesOf ents) (k + 1)) 18 [x, x] M (.bl true) M := by
  have hz : 100000 ≤ sizeLine := by decide
  obtain ⟨s, e1, e2⟩ := reprP_ofP (M := M) h hc (by omega)
  have e1' : OEQ (biP .repr M [x]) (.str s) := ⟨e1⟩
  have e3 : OEQ (cmpP .Eq M (.str s) (.str s)) (.bl true) := ⟨eqP_same (M := M) (p := .str s) (by simpa [cln] using e2)⟩
  have e4 : OEQ (cmpP .Eq M x x) (.bl true) := ⟨eqP_self (M := M) hc⟩
  constructor
  refine WF.eq (WF.run_ (n := 0) rfl rfl rfl ?_); (simp only [List.map_cons, List.map_nil, List.replicate, List.cons_append, List.nil_append, List.append_nil])
  (repeat (first | sizeOf_list_dec))

/-- arrivals as the law draws them -/
structure CmOk (m : Nat) (cs : List (List Int)) : Prop where
  len : ∀ r ∈ cs, r.length = m
  few : cs.length ≤ 9
  nn : ∀ r ∈ cs, ∀ v ∈ r, 0 ≤ v ∧ v ≤ 4
theorem w_comes (k : Nat) {R M : Store} (h : Bag R M) (ss : List PV) (t : Nat) (ht : t ≤ 9) {K : PV → Store → Prop} {X : Exc → Store → Prop} (hk : ∀ (rs : List (List Int)) (M' : Store), Bag R M' → CmOk ss.length rs → rs.length = t → K (rowsV rs) M') : WF (Fn T (codesOf ents) (k + 4)) 22 [.ref 0, .tup ss, .int (t : Int)] M K X := by
  refine WF.run_ (n := 2) rfl rfl rfl ?_; (simp only [List.map_cons, List.map_nil, List.replicate, List.cons_append, List.nil_append, List.append_nil])
  (repeat (first | sizeOf_list_dec))
  refine CMP.st (Bag R) (fun _ y => ∃ r : List Int, y = tupI r ∧ (r.length = ss.length ∧ ∀ v ∈ r, 0 ≤ v ∧ v ≤ 4)) _ h (fun x _ M1 hM => ?_) fun ys M2 hb2 hl hR => ?_
  · (repeat (first | sizeOf_list_dec))
    rw [← List.map_id ss]
    refine CMP.st (Bag R) (fun _ y => ∃ i : Int, y = .int i ∧ 0 ≤ i ∧ i ≤ 4) id hM (fun x _ M1 hM => ?_) fun ys M2 hb2 hl hR => ?_
    · (repeat (first | sizeOf_list_dec))
      refine w_some (k + 1) hM _ (by simp) (by simp) fun x M2 hb hx => ?_
      (repeat (first | sizeOf_list_dec))
      simp only [List.mem_cons, List.not_mem_nil, or_false] at hx
      refine ⟨hb, ?_⟩
      rcases hx with rfl | rfl | rfl | rfl | rfl | rfl <;> exact ⟨_, rfl, by omega, by omega⟩
    · obtain ⟨r, rfl, h1, h2⟩ := lift_map PV.int (fun i => 0 ≤ i ∧ i ≤ 4) ys (mem_of_R hl fun i x y a b => hR i x y a b)
      (repeat (first | sizeOf_list_dec))
      exact ⟨hb2, r, rfl, by rw [List.map_id, ← hl, List.length_map], h2⟩
  · obtain ⟨rs, rfl, h1, h2⟩ := lift_map tupI (fun r => r.length = ss.length ∧ ∀ v ∈ r, 0 ≤ v ∧ v ≤ 4) ys (mem_of_R hl fun i x y a b => hR i x y a b)
    rw [List.length_range] at hl
    (repeat (first | sizeOf_list_dec))
    rw [gcB h hb2]
    exact hk rs M2 hb2 ⟨fun r hr => (h2 r hr).1, by rw [h1]; omega, fun r hr => (h2 r hr).2⟩ (by rw [h1, hl])
/-! ### plays -/
def hpF (l c : List Int) : List Int := (l.zip c).map fun p => p.1 + p.2
def gnF (h s : List Int) : List Int := (h.zip s).map fun p => min p.1 p.2
def lnF (h g : List Int) : List Int := (h.zip g).map fun p => p.1 - p.2
structure Tr where
  h : List Int
  g : List Int
  l : List Int
/-- one turn -/
def trF (sv : List (List Int)) (l : List Int) (x : List Int × Nat) : Tr := ⟨hpF l x.1, gnF (hpF l x.1) (sv.getD x.2 []), lnF (hpF l x.1) (gnF (hpF l x.1) (sv.getD x.2 []))⟩
def stepF (sv : List (List Int)) (g : List Int × List Tr) (x : List Int × Nat) : List Int × List Tr := ((trF sv g.1 x).l, g.2 ++ [trF sv g.1 x])
def playF (sv : List (List Int)) (m : Nat) (xs : List (List Int × Nat)) : List Int × List Tr := xs.foldl (stepF sv) (List.replicate m 0, [])
def trV (t : Tr) : PV := .tup [tupI t.h, tupI t.g, tupI t.l]
def frV (f : List Nat) : PV := .tup (f.map fun n : Nat => PV.int (n : Int))
theorem tup_rep (m : Nat) : PV.tup (List.replicate m (.int 0)) = tupI (List.replicate m 0) := by
  unfold tupI
  rw [List.map_replicate]
theorem zipI (l c : List Int) : zipL (l.map .int) (c.map .int) = (l.zip c).map fun p => .tup [.int p.1, .int p.2] := zipLA _ _ _ _
/-- a run of turns keeps its shape -/
structure GOk (m : Nat) (g : List Int × List Tr) : Prop where
  len : g.1.length = m
  nn : ∀ v ∈ g.1, 0 ≤ v
theorem hpF_len {l c : List Int} {m : Nat} (h1 : l.length = m) (h2 : c.length = m) : (hpF l c).length = m := by simp [hpF, h1, h2]
theorem gnF_len {l c : List Int} {m : Nat} (h1 : l.length = m) (h2 : c.length = m) : (gnF l c).length = m := by simp [gnF, h1, h2]
theorem lnF_len {l c : List Int} {m : Nat} (h1 : l.length = m) (h2 : c.length = m) : (lnF l c).length = m := by simp [lnF, h1, h2]
theorem hpF_nn {l c : List Int} (h1 : ∀ v ∈ l, 0 ≤ v) (h2 : ∀ v ∈ c, 0 ≤ v) : ∀ v ∈ hpF l c, 0 ≤ v := fun v hv => by
  obtain ⟨p, hp, rfl⟩ := List.mem_map.mp hv
  have := h1 _ (List.of_mem_zip hp).1
  have := h2 _ (List.of_mem_zip hp).2
  omega
theorem gnF_nn {l c : List Int} (h1 : ∀ v ∈ l, 0 ≤ v) (h2 : ∀ v ∈ c, 0 ≤ v) : ∀ v ∈ gnF l c, 0 ≤ v := fun v hv => by
  obtain ⟨p, hp, rfl⟩ := List.mem_map.mp hv
  have := h1 _ (List.of_mem_zip hp).1
  have := h2 _ (List.of_mem_zip hp).2
  show 0 ≤ min p.1 p.2
  omega
theorem lnF_nn (h s : List Int) : ∀ v ∈ lnF h (gnF h s), 0 ≤ v := by
  induction h generalizing s with
  | nil => intro v hv; simp [lnF] at hv
  | cons a h ih =>
    cases s with
    | nil => intro v hv; simp [lnF, gnF] at hv
    | cons b s =>
      intro v hv
      rcases List.mem_cons.mp hv with rfl | hv
      · show 0 ≤ a - min a b
        omega
      · exact ih s v hv
end My
set_option maxHeartbeats 4000000
namespace My
open PySem DI
theorem _root_.DI.CMP.zipI {T : Tab} {Γ : Fns} {own : List (Str × Nat)} {tg : CT} {elt : CE} {sp : Sl} {M : Store} {KS : List PV → Store → Prop} {X : Exc → Store → Prop} (f : Int × Int → Int) {l c : List Int}
    (h : ∀ p ∈ l.zip c, WIPE own sp fun sp0 => WASG tg (.tup [.int p.1, .int p.2]) sp0 fun sp1 => WE T Γ elt sp1 M (fun y M2 => y = .int (f p) ∧ M2 = M) NoX) (hk : KS (((l.zip c).map f).map .int) M) : CMP T Γ own tg none elt sp ⟨zipL (l.map .int) (c.map .int), []⟩ M KS X := by
  rw [zipLA]
  exact CMP.map (fun p => .int (f p)) _ (gd0 _) h (by rw [List.map_map] at hk; exact hk)
section
variable {m : Nat} {sv cs : List (List Int)} {f : List Nat}
theorem zipV (cs : List (List Int)) (f : List Nat) : zipL (cs.map tupI) (f.map fun n : Nat => PV.int (n : Int)) = (cs.zip f).map fun p => .tup [tupI p.1, .int (p.2 : Int)] := zipLA _ _ _ _
theorem cln_trV (t : Tr) (n : Nat) : cln (n + 2) (trV t) = true := cln_tup fun x hx => by
  simp only [List.mem_cons, List.not_mem_nil, or_false] at hx
  rcases hx with rfl | rfl | rfl <;> exact cln_tupI _ _
theorem ply_trs (ts : List Tr) : ply 3 (.lst (ts.map trV)) = true := ply_lst fun x hx => by
  obtain ⟨t, _, rfl⟩ := List.mem_map.mp hx
  exact cln_ply _ _ (cln_trV t 0)
theorem play_snoc (sv : List (List Int)) (m : Nat) (xs : List (List Int × Nat)) (x : List Int × Nat) : playF sv m (xs ++ [x]) = stepF sv (playF sv m xs) x := by simp [playF, List.foldl_append]
theorem play_len (sv : List (List Int)) (m : Nat) (xs : List (List Int × Nat)) : (playF sv m xs).2.length = xs.length := by
  have key : ∀ (xs : List (List Int × Nat)) (g : List Int × List Tr), (xs.foldl (stepF sv) g).2.length = g.2.length + xs.length := fun xs => by
    induction xs with
    | nil => intro g; rfl
    | cons x xs ih =>
      intro g
      rw [List.foldl_cons, ih, List.length_cons]
      simp [stepF]
      omega
  unfold playF
  rw [key]
  simp
/-- what is played: rows of this width, services that are there -/
structure PlOk (m : Nat) (sv : List (List Int)) (xs : List (List Int × Nat)) : Prop where
  c : ∀ x ∈ xs, x.1.length = m ∧ ∀ v ∈ x.1, 0 ≤ v
  n : ∀ x ∈ xs, x.2 < sv.length
  few : xs.length ≤ 5000
theorem PlOk.pre {xs l post : List (List Int × Nat)} {x : List Int × Nat} (h : PlOk m sv xs) (e : xs = l ++ x :: post) : PlOk m sv l ∧ (x.1.length = m ∧ ∀ v ∈ x.1, 0 ≤ v) ∧ x.2 < sv.length ∧ l.length < 5000 := by
  subst e
  have := h.few
  simp at this
  exact ⟨⟨fun y hy => h.c y (by simp [hy]), fun y hy => h.n y (by simp [hy]), by omega⟩, h.c x (by simp), h.n x (by simp), by omega⟩
theorem play_ok (hs : SvOk m sv) {xs : List (List Int × Nat)} (h : PlOk m sv xs) : GOk m (playF sv m xs) := by
  have key : ∀ (xs : List (List Int × Nat)) (g : List Int × List Tr), (∀ x ∈ xs, (x.1.length = m ∧ ∀ v ∈ x.1, 0 ≤ v) ∧ x.2 < sv.length) → GOk m g → GOk m (xs.foldl (stepF sv) g) := fun xs => by
    induction xs with
    | nil => intro g _ hg; exact hg
    | cons x xs ih =>
      intro g hx hg
      rw [List.foldl_cons]
      obtain ⟨⟨h1, h2⟩, h3⟩ := hx x (by simp)
      refine ih _ (fun y hy => hx y (by simp [hy])) ⟨?_, ?_⟩
      · exact lnF_len (hpF_len hg.len h1) (gnF_len (hpF_len hg.len h1) (hs.len _ (row_mem h3)))
      · exact lnF_nn _ _
  exact key xs _ (fun x hx => ⟨h.c x hx, h.n x hx⟩) ⟨by simp, fun v hv => by rw [List.eq_of_mem_replicate hv]; exact Int.le_refl 0⟩
theorem pl_ok_of (hc : CmOk m cs) (hf : ∀ n ∈ f, n < sv.length) : PlOk m sv (cs.zip f) := ⟨fun x hx => ⟨hc.len _ (List.of_mem_zip hx).1, fun v hv => (hc.nn _ (List.of_mem_zip hx).1 v hv).1⟩, fun x hx => hf _ (List.of_mem_zip hx).2, by
  rw [List.length_zip]
  have := hc.few
  omega⟩
theorem min_if (a b : Int) : (if b < a then b else a) = min a b := by omega
theorem pl_law (k : Nat) (hs : SvOk m sv) (hm3 : m ≤ 3) (hp : PlOk m sv (cs.zip f)) {M : Store} (hM : okS M) : F (k + 1) 21 [rowsV sv, rowsV cs, frV f] M = .ok (.lst ((playF sv m (cs.zip f)).2.map trV)) M := by
  have e1 := fun M => e_row0 hs M
  have e2 := fun M => e_len0 hs M
  refine WF.eq (WF.run_ (n := 8) rfl rfl rfl ?_); (simp only [List.map_cons, List.map_nil, List.replicate, List.cons_append, List.nil_append, List.append_nil])
  (repeat (first | refine OP.ofE (e1 _) ?_ | refine OP.ofE (e2 _) ?_ | sizeOf_list_dec))
  rw [tup_rep, zipV]
  refine FOR.pre0 _ (fun l sp M' => ∃ q5 q6 q7 q8 q9 q10, sp = [some (rowsV sv), some (rowsV cs), some (frV f), some (tupI (playF sv m l).1), some (.ref M.length), q5, q6, q7, q8, q9, q10] ∧ M' = M ++ [some (.lst ((playF sv m l).2.map trV))]) ⟨_, _, _, _, _, _, rfl, rfl⟩ (fun l x post sp M' he hI => ?_) fun sp M' hI => ?_
  · obtain ⟨q5, q6, q7, q8, q9, q10, rfl, rfl⟩ := hI
    obtain ⟨h1, ⟨h2, h3⟩, h4, h5⟩ := hp.pre he
    have hl := play_len sv m l
    have e3 := fun M => e_row (sv := sv) h4 M
    rw [play_snoc]
    generalize playF sv m l = g at *
    obtain ⟨c, n⟩ := x
    (repeat (first | sizeOf_list_dec))
    refine CMP.zipI (fun p => p.1 + p.2) (fun p hp => ?_) ?_
    · (repeat (first | sizeOf_list_dec))
    (repeat (first | refine OP.ofE (e3 _) ?_ | sizeOf_list_dec))
    refine CMP.zipI (fun p => min p.1 p.2) (fun p hp => ?_) ?_
    · (repeat (first | sizeOf_list_dec))
      exact ⟨by rw [min_if], rfl⟩
    (repeat (first | sizeOf_list_dec))
    refine CMP.zipI (fun p => p.1 - p.2) (fun p hp => ?_) ?_
    · (repeat (first | sizeOf_list_dec))
    (repeat (first | sizeOf_list_dec))
    refine ⟨_, _, _, _, _, _, rfl, ?_⟩
    show _ = M ++ [some (.lst ((g.2 ++ [trF sv g.1 (c, n)]).map trV))]
    rw [List.map_append]
    rfl
  · obtain ⟨q5, q6, q7, q8, q9, q10, rfl, rfl⟩ := hI
    (repeat (first | sizeOf_list_dec))
    exact ⟨rfl, gcA hM (ply_trs _)⟩
end
end My
set_option maxHeartbeats 4000000
namespace My
open PySem DI
theorem idxR_last {M : Store} {n : Nat} {xs : List PV} {q : PV} (h : lstAt M n = some (xs ++ [q])) : idxP M (.ref n) (.int (-1)) = some q := by
  have hi : L2.ixN (xs ++ [q]).length (-1) = some xs.length := by
    unfold L2.ixN
    rw [if_neg (by omega)]
    simp only [List.length_append, List.length_cons, List.length_nil]
    rw [if_pos (by omega)]
    congr 1
    omega
  simp only [idxP, h, L2.atI, hi]
  simp
/-- what a play holds: three lists, the lines, their three lists -/
def LS7 (n : Nat) (s : PV) (a b c e f g : List PV) : Store := [some (.lst a), some (.lst b), some (.lst c), some (.ins 3 [some s, some (.ref (n + 4)), some (.ref (n + 5)), some (.ref (n + 6))]), some (.lst e), some (.lst f), some (.lst g)]
section
variable {M : Store} {s q : PV} {a b c e f g : List PV} {k : PV → Store → Prop}
theorem l7_0 (hz : a.length < sizeLine) (h : k .non (M ++ LS7 M.length s (a ++ [q]) b c e f g)) : BMX .append (M ++ LS7 M.length s a b c e f g) (.ref M.length) [q] k :=
  BMX.app (lstAt_at (i := 0) rfl) hz (by rw [show M.length = M.length + 0 from rfl, set_app]; exact h)
theorem l7_1 (hz : b.length < sizeLine) (h : k .non (M ++ LS7 M.length s a (b ++ [q]) c e f g)) : BMX .append (M ++ LS7 M.length s a b c e f g) (.ref (M.length + 1)) [q] k :=
  BMX.app (lstAt_at (i := 1) rfl) hz (by rw [set_app]; exact h)
theorem l7_2 (hz : c.length < sizeLine) (h : k .non (M ++ LS7 M.length s a b (c ++ [q]) e f g)) : BMX .append (M ++ LS7 M.length s a b c e f g) (.ref (M.length + 2)) [q] k :=
  BMX.app (lstAt_at (i := 2) rfl) hz (by rw [set_app]; exact h)
theorem l7_4 (hz : e.length < sizeLine) (h : k .non (M ++ LS7 M.length s a b c (e ++ [q]) f g)) : BMX .append (M ++ LS7 M.length s a b c e f g) (.ref (M.length + 4)) [q] k :=
  BMX.app (lstAt_at (i := 4) rfl) hz (by rw [set_app]; exact h)
theorem l7_5 (hz : f.length < sizeLine) (h : k .non (M ++ LS7 M.length s a b c e (f ++ [q]) g)) : BMX .append (M ++ LS7 M.length s a b c e f g) (.ref (M.length + 5)) [q] k :=
  BMX.app (lstAt_at (i := 5) rfl) hz (by rw [set_app]; exact h)
theorem l7_6 (hz : g.length < sizeLine) (h : k .non (M ++ LS7 M.length s a b c e f (g ++ [q]))) : BMX .append (M ++ LS7 M.length s a b c e f g) (.ref (M.length + 6)) [q] k :=
  BMX.app (lstAt_at (i := 6) rfl) hz (by rw [set_app]; exact h)
theorem t7_4 : tyM (M ++ LS7 M.length s a b c e f g) (.ref (M.length + 4)) = true := mAppend (lstAt_at (i := 4) rfl)
theorem t7_5 : tyM (M ++ LS7 M.length s a b c e f g) (.ref (M.length + 5)) = true := mAppend (lstAt_at (i := 5) rfl)
theorem t7_6 : tyM (M ++ LS7 M.length s a b c e f g) (.ref (M.length + 6)) = true := mAppend (lstAt_at (i := 6) rfl)
theorem t7_0 : tyM (M ++ LS7 M.length s a b c e f g) (.ref M.length) = true := mAppend (lstAt_at (i := 0) rfl)
theorem t7_1 : tyM (M ++ LS7 M.length s a b c e f g) (.ref (M.length + 1)) = true := mAppend (lstAt_at (i := 1) rfl)
theorem t7_2 : tyM (M ++ LS7 M.length s a b c e f g) (.ref (M.length + 2)) = true := mAppend (lstAt_at (i := 2) rfl)
theorem f7_s : OEQ (fldP T (M ++ LS7 M.length s a b c e f g) (.ref (M.length + 3)) "services") s := ⟨fldP_app rfl rfl rfl rfl rfl⟩
theorem f7_c : OEQ (fldP T (M ++ LS7 M.length s a b c e f g) (.ref (M.length + 3)) "came") (.ref (M.length + 4)) := ⟨fldP_app rfl rfl rfl rfl rfl⟩
theorem f7_d : OEQ (fldP T (M ++ LS7 M.length s a b c e f g) (.ref (M.length + 3)) "done") (.ref (M.length + 5)) := ⟨fldP_app rfl rfl rfl rfl rfl⟩
theorem f7_l : OEQ (fldP T (M ++ LS7 M.length s a b c e f g) (.ref (M.length + 3)) "lying") (.ref (M.length + 6)) := ⟨fldP_app rfl rfl rfl rfl rfl⟩
theorem m7_l : methP T (M ++ LS7 M.length s a b c e f g) (.ref (M.length + 3)) "lines" = some (T.fnm.length + 1) := methP_app rfl rfl
theorem m7_t : methP T (M ++ LS7 M.length s a b c e f g) (.ref (M.length + 3)) "turn" = some (T.fnm.length + 2) := methP_app rfl rfl
theorem d7_len : OEQ (biP .len (M ++ LS7 M.length s a b c e f g) [.ref (M.length + 5)]) (.int (f.length : Int)) := ⟨biLenR (lstAt_at (i := 5) rfl)⟩
theorem i7_last : OEQ (idxP (M ++ LS7 M.length s a b c e f (g ++ [q])) (.ref (M.length + 6)) (.int (-1))) q := ⟨idxR_last (lstAt_at (i := 6) rfl)⟩
end
section
variable {m : Nat} {sv cs : List (List Int)} {f : List Nat}
theorem idxs_int (l : List Int) (h : ∀ v ∈ l, 0 ≤ v) : allT idxB (tupI l) = true := by
  show (l.map PV.int).all idxB = true
  rw [List.all_eq_true]
  intro y hy
  obtain ⟨i, hi, rfl⟩ := List.mem_map.mp hy
  simp [idxB, h i hi]
/-- heaps are what they should be -/
theorem p_check (k : Nat) (hs : SvOk m sv) {h : List Int} (hl : h.length = m) (hn : ∀ v ∈ h, 0 ≤ v) (M : Store) : F (k + 6) 7 [rowsV sv, tupI h] M = .ok .non M := by
  have e0 := fun M => fe (idxs_any (k + 1) (ply_tupI h 0) M)
  have e1 := fun M => e_row0 hs M
  have e2 := fun M => e_len0 hs M
  have e3 : ∀ M, OEQ (biP .len M [tupI h]) (.int (m : Int)) := fun M => ⟨by show some (PV.int ((h.map PV.int).length : Int)) = _; rw [List.length_map, hl]⟩
  rw [idxs_int h hn] at e0
  refine WF.eq (WF.run_ (n := 0) rfl rfl rfl ?_); (simp only [List.map_cons, List.map_nil, List.replicate, List.cons_append, List.nil_append, List.append_nil])
  (repeat (first | refine OP.ofE (e1 _) ?_ | refine OP.ofE (e2 _) ?_ | refine OP.ofE (e3 _) ?_ | refine WF.okE (e0 _) ?_ | sizeOf_list_dec))
theorem p_served (k : Nat) (hs : SvOk m sv) {h : List Int} (hl : h.length = m) (hn : ∀ v ∈ h, 0 ≤ v) {n : Nat} (hnl : n < sv.length) (M : Store) : F (k + 7) 8 [rowsV sv, .int (n : Int), tupI h] M = .ok (tupI (gnF h (sv.getD n []))) M := by
  have e0 := fun M => fe (p_check k hs hl hn M)
  have e1 := fun M => e_row (sv := sv) hnl M
  have e2 := fun M => fe (idx_nat (k + 4) n M)
  have e3 := fun M => e_lenS sv M
  refine WF.eq (WF.run_ (n := 2) rfl rfl rfl ?_); (simp only [List.map_cons, List.map_nil, List.replicate, List.cons_append, List.nil_append, List.append_nil])
  (repeat (first | refine OP.ofE (e1 _) ?_ | refine OP.ofE (e3 _) ?_ | refine WF.okE (e0 _) ?_ | refine WF.okE (e2 _) ?_ | sizeOf_list_dec))
  refine CMP.zipI (fun p => min p.2 p.1) (fun p hp => ?_) ?_
  · (repeat (first | sizeOf_list_dec))
    exact ⟨by rw [min_if, Int.min_comm], rfl⟩
  (repeat (first | sizeOf_list_dec))
  refine ⟨?_, gcM_self⟩
  have : ∀ (l c : List Int), ((l.zip c).map fun p => min p.2 p.1) = (c.zip l).map fun p => min p.1 p.2 := fun l => by
    induction l with
    | nil => intro c; simp
    | cons a l ih =>
      intro c
      cases c with
      | nil => simp
      | cons b c => simp [ih c]
  show PV.tup _ = PV.tup _
  rw [this]
  rfl
theorem p_lines (k : Nat) {M : Store} {s q : PV} {a b c e f g : List PV} : F (k + 1) (T.fnm.length + 1) [.ref (M.length + 3)] (M ++ LS7 M.length s a b c e f (g ++ [q])) = .ok q (M ++ LS7 M.length s a b c e f (g ++ [q])) := by
  have e1 := @f7_l M s a b c e f (g ++ [q])
  have e2 := @i7_last M s q a b c e f g
  refine WF.eq (WF.run_ (n := 0) rfl rfl rfl ?_); (simp only [List.map_cons, List.map_nil, List.replicate, List.cons_append, List.nil_append, List.append_nil])
  (repeat (first | refine WE.fld ?_ | refine OP.ofE e1 ?_ | refine OP.ofE e2 ?_ | sizeOf_list_dec))
/-- one turn -/
theorem p_turn (k : Nat) (hs : SvOk m sv) {l c : List Int} (hl : l.length = m) (hln : ∀ v ∈ l, 0 ≤ v) (hc : c.length = m) (hcn : ∀ v ∈ c, 0 ≤ v) {n : Nat} (hnl : n < sv.length) {M : Store} {a b d e f g : List PV} (hf : f.length < 5000) (he : e.length ≤ 5000) (hg : g.length ≤ 5000) :
    F (k + 8) (T.fnm.length + 2) [.ref (M.length + 3), tupI c, .int (n : Int)] (M ++ LS7 M.length (rowsV sv) a b d e f (g ++ [tupI l])) =
      .ok (tupI (trF sv l (c, n)).g) (M ++ LS7 M.length (rowsV sv) a b d (e ++ [tupI c]) (f ++ [.int (n : Int)]) (g ++ [tupI l] ++ [tupI (trF sv l (c, n)).l])) := by
  have hz : 10000 < sizeLine := by decide
  have e0 := fun M => fe (p_check (k + 1) hs hc hcn M)
  have e1 := @f7_s M (rowsV sv) a b d e f (g ++ [tupI l])
  have e2 := fun M => fe (idx_nat (k + 5) n M)
  have e3 := fun M => e_lenS sv M
  have e4 := @f7_d M (rowsV sv) a b d e f (g ++ [tupI l])
  have e5 := @d7_len M (rowsV sv) a b d e f (g ++ [tupI l])
  have e6 := @f7_l M (rowsV sv) a b d e f (g ++ [tupI l])
  have e7 := @i7_last M (rowsV sv) (tupI l) a b d e f g
  have e8 := fun M => fe (p_served k hs (hpF_len hl hc) (hpF_nn hln hcn) hnl M)
  have e9 := @f7_c M (rowsV sv) a b d e f (g ++ [tupI l])
  have e10 := @f7_d M (rowsV sv) a b d (e ++ [tupI c]) f (g ++ [tupI l])
  have e11 := @f7_l M (rowsV sv) a b d (e ++ [tupI c]) (f ++ [.int (n : Int)]) (g ++ [tupI l])
  refine WF.eq (WF.run_ (n := 5) rfl rfl rfl ?_); (simp only [List.map_cons, List.map_nil, List.replicate, List.cons_append, List.nil_append, List.append_nil])
  (repeat (first | refine WE.fld ?_ | refine OP.ofE e1 ?_ | refine OP.ofE (e3 _) ?_ | refine OP.ofE e4 ?_ | refine OP.ofE e5 ?_ | refine OP.ofE e6 ?_ | refine OP.ofE e7 ?_ | refine WF.okE (e0 _) ?_ | refine WF.okE (e2 _) ?_ | sizeOf_list_dec))
  refine CMP.zipI (fun p => p.1 + p.2) (fun p hp => ?_) ?_
  · (repeat (first | sizeOf_list_dec))
  (repeat (first | refine WE.fld ?_ | refine OP.ofE e1 ?_ | refine WF.okE (e8 _) ?_ | refine WE.meth ?_ | refine OP.ofE e9 ?_ | refine OP.ofE e10 ?_ | refine OP.ofE e11 ?_ | refine And.intro t7_4 ?_ | refine And.intro t7_5 ?_ | refine And.intro t7_6 ?_ | refine l7_4 (by omega) ?_ | refine l7_5 (by omega) ?_ | sizeOf_list_dec))
  refine CMP.zipI (fun p => p.1 - p.2) (fun p hp => ?_) ?_
  · (repeat (first | sizeOf_list_dec))
  (repeat (first | sizeOf_list_dec))
  refine l7_6 (by rw [List.length_append]; simp; omega) ?_
  (repeat (first | sizeOf_list_dec))
  exact ⟨rfl, gcM_len (by simp [LS7])⟩
/-- the lines are made -/
theorem p_init (k : Nat) (hs : SvOk m sv) (hm : m ≤ 3) (M : Store) : F (k + 1) (T.fnm.length + 0) [.ref M.length, rowsV sv] (M ++ [some (.ins 3 (List.replicate 4 none))]) =
    .ok .non (M ++ [some (.ins 3 [some (rowsV sv), some (.ref (M.length + 1)), some (.ref (M.length + 2)), some (.ref (M.length + 3))]), some (.lst []), some (.lst []), some (.lst [tupI (List.replicate m 0)])]) := by
  have e1 := fun M => e_row0 hs M
  have e2 := fun M => e_len0 hs M
  have sf : ∀ (L : Store) (fs : List (Option PV)) (nm : Str) (j : Nat) (q : PV) (kk : Store → Prop), (["services", "came", "done", "lying"] : List Str).findIdx? (fun g => decide (g = nm)) = some j → kk (M ++ (some (.ins 3 (fs.set j (some q))) :: L)) → SETF T (M ++ (some (.ins 3 fs) :: L)) (.ref M.length) nm q kk := fun L fs nm j q kk h1 h2 =>
    ⟨_, setFP_app (M := M) (L := some (.ins 3 fs) :: L) (i := 0) rfl rfl rfl h1, h2⟩
  refine WF.eq (WF.run_ (n := 0) rfl rfl rfl ?_); (simp only [List.map_cons, List.map_nil, List.replicate, List.cons_append, List.nil_append, List.append_nil])
  (repeat (first | refine W1.setF ?_ | sizeOf_list_dec))
  refine sf [] _ _ _ _ _ rfl ?_
  (repeat (first | refine W1.setF ?_ | sizeOf_list_dec))
  simp only [List.append_assoc, List.cons_append, List.nil_append, List.length_append, List.length_cons, List.length_nil]
  refine sf _ _ _ _ _ _ rfl ?_
  (repeat (first | refine W1.setF ?_ | sizeOf_list_dec))
  simp only [List.append_assoc, List.cons_append, List.nil_append, List.length_append, List.length_cons, List.length_nil]
  refine sf _ _ _ _ _ _ rfl ?_
  (repeat (first | refine W1.setF ?_ | refine OP.ofE (e1 _) ?_ | refine OP.ofE (e2 _) ?_ | sizeOf_list_dec))
  simp only [List.append_assoc, List.cons_append, List.nil_append, List.length_append, List.length_cons, List.length_nil]
  refine sf _ _ _ _ _ _ rfl ?_
  (repeat (first | sizeOf_list_dec))
  rw [tup_rep]
  refine ⟨trivial, (gcM_keep ?_).trans ?_⟩
  · have : ∀ (M L : Store) (o : Option SObj) (n : Nat), okObj n o = false → n = M.length + 1 → ((M ++ o :: L).take n).all (okObj n) = false := fun M L o n h1 h2 => by
      subst h2
      rw [show M ++ o :: L = (M ++ [o]) ++ L by simp, List.take_left' (by simp), List.all_append]
      simp [h1]
    refine this _ _ _ _ ?_ (by omega)
    simp [okObj, okRef]
  · simp [List.set]
end
end My
set_option maxHeartbeats 4000000
namespace My
open PySem DI
section
variable {m : Nat} {sv cs : List (List Int)} {f : List Nat}
/-- arrivals are what they should be -/
theorem p_carr (k : Nat) {cs : List (List Int)} (hc : ∀ r ∈ cs, r.length = m ∧ ∀ v ∈ r, 0 ≤ v) (hl : cs.length ≤ 5000) {s : List Int} (hs : s.length = m) (M : Store) : F (k + 7) 5 [tupI s, rowsV cs] M = .ok (rowsV cs) M := by
  have e0 := fun M => fe (rows_any k (ply_rows cs 0) M)
  have hr : allT (allT idxB) (rowsV cs) = true := by
    show (cs.map tupI).all (allT idxB) = true
    rw [List.all_eq_true]
    intro x hx
    obtain ⟨r, hr, rfl⟩ := List.mem_map.mp hx
    exact idxs_int r (hc r hr).2
  rw [hr] at e0
  have e1 : ∀ M, OEQ (biP .len M [rowsV cs]) (.int (cs.length : Int)) := fun M => e_lenS cs M
  have e2 : ∀ (l : List Int) M, OEQ (biP .len M [tupI l]) (.int (l.length : Int)) := fun l M => ⟨by show some (PV.int ((l.map PV.int).length : Int)) = _; rw [List.length_map]⟩
  refine WF.eq (WF.run_ (n := 2) rfl rfl rfl ?_); (simp only [List.map_cons, List.map_nil, List.replicate, List.cons_append, List.nil_append, List.append_nil])
  (repeat (first | refine OP.ofE (e1 _) ?_ | refine WF.okE (e0 _) ?_ | sizeOf_list_dec))
  refine FOR.enum tupI (fun j sp M' => ∃ q2 q3, sp = [some (tupI s), some (rowsV cs), q2, q3] ∧ M' = M) ⟨_, _, rfl, rfl⟩ (fun j r sp M' hj hI => ?_) fun sp M' hI => ?_
  · obtain ⟨q2, q3, rfl, rfl⟩ := hI
    have h1 := (hc r (List.mem_of_getElem? hj)).1
    have e3 := e2 r
    have e4 := e2 s
    rw [h1] at e3
    rw [hs] at e4
    (repeat (first | refine OP.ofE (e3 _) ?_ | refine OP.ofE (e4 _) ?_ | sizeOf_list_dec))
    exact ⟨_, _, rfl, rfl⟩
  · obtain ⟨q2, q3, rfl, rfl⟩ := hI
    (repeat (first | sizeOf_list_dec))
def trsH (ts : List Tr) : List PV := ts.map fun t => tupI t.h
def trsG (ts : List Tr) : List PV := ts.map fun t => tupI t.g
def trsL (ts : List Tr) : List PV := ts.map fun t => tupI t.l
/-- what a play holds behind some turns -/
def lst7 (n m : Nat) (sv : List (List Int)) (xs : List (List Int × Nat)) : Store :=
  LS7 n (rowsV sv) (trsL (playF sv m xs).2) (trsH (playF sv m xs).2) (trsG (playF sv m xs).2) (xs.map fun x => tupI x.1) (xs.map fun x => .int (x.2 : Int)) (tupI (List.replicate m 0) :: trsL (playF sv m xs).2)
theorem lying_last (sv : List (List Int)) (m : Nat) : ∀ xs : List (List Int × Nat), ∃ g, tupI (List.replicate m 0) :: trsL (playF sv m xs).2 = g ++ [tupI (playF sv m xs).1] ∧ g.length = xs.length := fun xs => by
  rcases List.eq_nil_or_concat xs with rfl | ⟨l, x, rfl⟩
  · exact ⟨[], rfl, rfl⟩
  · rw [List.concat_eq_append, play_snoc]
    refine ⟨tupI (List.replicate m 0) :: trsL (playF sv m l).2, ?_, ?_⟩
    · simp [stepF, trsL]
    · simp [trsL, play_len]
theorem p_played (k : Nat) (hs : SvOk m sv) (hm : m ≤ 3) (hc : ∀ r ∈ cs, r.length = m ∧ ∀ v ∈ r, 0 ≤ v) (hcl : cs.length ≤ 5000) (hf : ∀ n ∈ f, n < sv.length) (hl : f.length = cs.length) {M : Store} (hM : okS M) :
    F (k + 9) 9 [rowsV sv, rowsV cs, frV f] M = .ok (.tup [.tup (trsL (playF sv m (cs.zip f)).2), .tup (trsH (playF sv m (cs.zip f)).2), .tup (trsG (playF sv m (cs.zip f)).2)]) M := by
  have hp : PlOk m sv (cs.zip f) := ⟨fun x hx => hc _ (List.of_mem_zip hx).1, fun x hx => hf _ (List.of_mem_zip hx).2, by rw [List.length_zip]; omega⟩
  have hz : 10000 < sizeLine := by decide
  have e1 := fun M => e_row0 hs M
  have e2 := fun M => e_len0 hs M
  have e3 := fun M => fe (p_carr (k + 1) hc hcl (hs.len _ (row_mem hs.ne)) M)
  have e4 := fun M => fe (idxs_any (k + 4) (n := 1) (p := frV f) (ply_tup fun x hx => by obtain ⟨n, _, rfl⟩ := List.mem_map.mp hx; rfl) M)
  have hfi : allT idxB (frV f) = true := by
    show (f.map fun n : Nat => PV.int (n : Int)).all idxB = true
    rw [List.all_eq_true]
    intro y hy
    obtain ⟨i, hi, rfl⟩ := List.mem_map.mp hy
    simp [idxB]
  rw [hfi] at e4
  have e5 : ∀ M, OEQ (biP .len M [frV f]) (.int (f.length : Int)) := fun M => ⟨by show some (PV.int ((f.map fun n : Nat => PV.int (n : Int)).length : Int)) = _; rw [List.length_map]⟩
  have e6 : ∀ M, OEQ (biP .len M [rowsV cs]) (.int (cs.length : Int)) := fun M => e_lenS cs M
  have e7 := fun M => fe (p_init (k + 7) hs hm M)
  refine WF.eq (WF.run_ (n := 8) rfl rfl rfl ?_); (simp only [List.map_cons, List.map_nil, List.replicate, List.cons_append, List.nil_append, List.append_nil])
  (repeat (first | refine OP.ofE (e1 _) ?_ | refine WF.okE (e3 _) ?_ | refine WF.okE (e4 _) ?_ | refine OP.ofE (e5 _) ?_ | refine OP.ofE (e6 _) ?_ | refine WE.newI ?_ | refine WF.okE (e7 _) ?_ | refine And.intro rfl ?_ | sizeOf_list_dec))
  rw [zipV]
  refine FOR.pre0 _ (fun l sp M' => ∃ q7 q8 q9 q10, sp = [some (rowsV sv), some (rowsV cs), some (frV f), some (.ref M.length), some (.ref (M.length + 1)), some (.ref (M.length + 2)), some (.ref (M.length + 3)), q7, q8, q9, q10] ∧ M' = M ++ lst7 M.length m sv l) ⟨none, none, none, none, by simp, by simp [lst7, LS7, playF, trsL, trsH, trsG]⟩ (fun l x post sp M' he hI => ?_) fun sp M' hI => ?_
  · obtain ⟨q7, q8, q9, q10, rfl, rfl⟩ := hI
    obtain ⟨h1, ⟨h2, h3⟩, h4, h5⟩ := hp.pre he
    have hgo := play_ok hs h1
    have hpl := play_len sv m l
    obtain ⟨g, hg, hgl⟩ := lying_last sv m l
    unfold lst7
    rw [play_snoc, hg]
    have lH : (trsH (playF sv m l).2).length = l.length := by simp [trsH, hpl]
    have lL : (trsL (playF sv m l).2).length = l.length := by simp [trsL, hpl]
    have lG : (trsG (playF sv m l).2).length = l.length := by simp [trsG, hpl]
    have e8 := fe (p_lines (k + 7) (M := M) (s := rowsV sv) (q := tupI (playF sv m l).1) (a := trsL (playF sv m l).2) (b := trsH (playF sv m l).2) (c := trsG (playF sv m l).2) (e := l.map fun x => tupI x.1) (f := l.map fun x => .int (x.2 : Int)) (g := g))
    have e9 := fe (p_turn k hs hgo.len hgo.nn h2 h3 h4 (M := M) (a := trsL (playF sv m l).2) (b := trsH (playF sv m l).2 ++ [tupI (hpF (playF sv m l).1 x.1)]) (d := trsG (playF sv m l).2) (e := l.map fun x => tupI x.1) (f := l.map fun x => .int (x.2 : Int)) (g := g) (by simp; omega) (by simp; omega) (by omega))
    have e10 := fe (p_lines (k + 7) (M := M) (s := rowsV sv) (q := tupI (trF sv (playF sv m l).1 x).l) (a := trsL (playF sv m l).2) (b := trsH (playF sv m l).2 ++ [tupI (hpF (playF sv m l).1 x.1)]) (c := trsG (playF sv m l).2 ++ [tupI (trF sv (playF sv m l).1 x).g]) (e := (l.map fun x => tupI x.1) ++ [tupI x.1]) (f := (l.map fun x => .int (x.2 : Int)) ++ [.int (x.2 : Int)]) (g := g ++ [tupI (playF sv m l).1]))
    obtain ⟨c, n⟩ := x
    (repeat (first | refine WE.meth ?_ | refine And.intro t7_1 ?_ | refine WE.mcall ?_ | refine Exists.intro _ (And.intro m7_l ?_) | refine WF.okE e8 ?_ | sizeOf_list_dec))
    refine CMP.zipI (fun p => p.1 + p.2) (fun p hp => ?_) ?_
    · (repeat (first | sizeOf_list_dec))
    (repeat (first | sizeOf_list_dec))
    refine l7_1 (by omega) ?_
    (repeat (first | refine WE.meth ?_ | refine And.intro t7_2 ?_ | refine WE.mcall ?_ | refine Exists.intro _ (And.intro m7_t ?_) | refine WF.okE e9 ?_ | sizeOf_list_dec))
    refine l7_2 (by omega) ?_
    (repeat (first | refine WE.meth ?_ | refine And.intro t7_0 ?_ | refine WE.mcall ?_ | refine Exists.intro _ (And.intro m7_l ?_) | refine WF.okE e10 ?_ | sizeOf_list_dec))
    refine l7_0 (by omega) ?_
    (repeat (first | sizeOf_list_dec))
    refine ⟨_, _, _, _, rfl, ?_⟩
    have hq : tupI (List.replicate m 0) :: trsL ((playF sv m l).2 ++ [trF sv (playF sv m l).1 (c, n)]) = g ++ [tupI (playF sv m l).1] ++ [tupI (trF sv (playF sv m l).1 (c, n)).l] := by
      rw [← hg]
      simp [trsL]
    simp only [stepF]
    rw [hq]
    simp [trsL, trsH, trsG, trF, hpF, tupI]
  · obtain ⟨q7, q8, q9, q10, rfl, rfl⟩ := hI
    (repeat (first | sizeOf_list_dec))
    refine OP.tupR (lstAt_at (i := 0) rfl) ?_
    (repeat (first | sizeOf_list_dec))
    refine OP.tupR (lstAt_at (i := 1) rfl) ?_
    (repeat (first | sizeOf_list_dec))
    refine OP.tupR (lstAt_at (i := 2) rfl) ?_
    (repeat (first | sizeOf_list_dec))
    exact ⟨rfl, gcA (n := 3) hM (ply_tup fun x hx => by
      simp only [List.mem_cons, List.not_mem_nil, or_false] at hx
      rcases hx with rfl | rfl | rfl <;> exact ply_tup fun y hy => by
        obtain ⟨t, _, rfl⟩ := List.mem_map.mp hy
        exact ply_tupI _ _)⟩
/-! ### faults -/
theorem p_carrX (k : Nat) {p : PV} (hp : ply 58 p = true) (h : allT (allT idxB) p = false) (s : PV) (M : Store) : F (k + 7) 5 [s, p] M = .exc ⟨0, [.int (-1), .str "form"], false⟩ M := by
  have e0 := fun M => fe (rows_any k (n := 56) hp M)
  rw [h] at e0
  refine WF.eqx (WF.run_ (n := 2) rfl rfl rfl ?_); (simp only [List.map_cons, List.map_nil, List.replicate, List.cons_append, List.nil_append, List.append_nil])
  (repeat (first | refine WF.okE (e0 _) ?_ | sizeOf_list_dec))
theorem p_carrY (k : Nat) {cs : List (List Int)} (hc : ∀ r ∈ cs, r.length = m ∧ ∀ v ∈ r, 0 ≤ v) (hl : cs.length < 5000) {c : List Int} (hn : ∀ v ∈ c, 0 ≤ v) (hcl : c.length ≠ m) {s : List Int} (hs : s.length = m) (M : Store) : F (k + 7) 5 [tupI s, rowsV (cs ++ [c])] M = .exc ⟨0, [.int (cs.length : Int), .str "streams"], false⟩ M := by
  have e0 := fun M => fe (rows_any k (ply_rows (cs ++ [c]) 0) M)
  have hr : allT (allT idxB) (rowsV (cs ++ [c])) = true := by
    show ((cs ++ [c]).map tupI).all (allT idxB) = true
    rw [List.all_eq_true]
    intro x hx
    obtain ⟨r, hr, rfl⟩ := List.mem_map.mp hx
    rcases List.mem_append.mp hr with hr | hr
    · exact idxs_int r (hc r hr).2
    · rw [List.mem_singleton.mp hr]; exact idxs_int c hn
  rw [hr] at e0
  have e1 : ∀ M, OEQ (biP .len M [rowsV (cs ++ [c])]) (.int ((cs ++ [c]).length : Int)) := fun M => e_lenS (cs ++ [c]) M
  have e2 : ∀ (l : List Int) M, OEQ (biP .len M [tupI l]) (.int (l.length : Int)) := fun l M => ⟨by show some (PV.int ((l.map PV.int).length : Int)) = _; rw [List.length_map]⟩
  have hl2 : ¬ (5000 < ((cs ++ [c]).length : Int)) := by rw [List.length_append]; simp; omega
  refine WF.eqx (WF.run_ (n := 2) rfl rfl rfl ?_); (simp only [List.map_cons, List.map_nil, List.replicate, List.cons_append, List.nil_append, List.append_nil])
  (repeat (first | refine OP.ofE (e1 _) ?_ | refine WF.okE (e0 _) ?_ | sizeOf_list_dec))
  have en : enumL ((cs ++ [c]).map tupI) = (cs.zipIdx.map fun p => PV.tup [.int (p.2 : Int), tupI p.1]) ++ [.tup [.int (cs.length : Int), tupI c]] := by
    rw [enumLA, List.zipIdx_append, List.map_append]
    simp
  rw [en]
  refine FOR.pre1 _ (fun l sp M' => ∃ q2 q3, sp = [some (tupI s), some (rowsV (cs ++ [c])), q2, q3] ∧ M' = M) ⟨_, _, rfl, rfl⟩ (fun l x post sp M' he hI => ?_) fun sp M' hI => ?_
  · obtain ⟨q2, q3, rfl, rfl⟩ := hI
    have hx : x ∈ cs.zipIdx := by rw [he]; simp
    have h1 := (hc x.1 (List.fst_mem_of_mem_zipIdx hx)).1
    have e3 := e2 x.1
    have e4 := e2 s
    rw [h1] at e3
    rw [hs] at e4
    (repeat (first | refine OP.ofE (e3 _) ?_ | refine OP.ofE (e4 _) ?_ | sizeOf_list_dec))
    exact ⟨_, _, rfl, rfl⟩
  · obtain ⟨q2, q3, rfl, rfl⟩ := hI
    have e3 := e2 c
    have e4 := e2 s
    rw [hs] at e4
    have hne : ¬ ((c.length : Int) = (m : Int)) := by omega
    refine FOR.cons (gd0 _) ?_
    (repeat (first | refine OP.ofE (e3 _) ?_ | refine OP.ofE (e4 _) ?_ | sizeOf_list_dec))
/-- the arrivals are none -/
theorem p_playedA (k : Nat) (hs : SvOk m sv) {p q : PV} {fs : List PV} {M : Store} (h : F (k + 8) 5 [tupI (sv.getD 0 []), p] M = .exc ⟨0, fs, false⟩ M) : F (k + 9) 9 [rowsV sv, p, q] M = .exc ⟨2, [], true⟩ M := by
  have e1 := fun M => e_row0 hs M
  have e2 := fx h
  refine WF.eqx (WF.run_ (n := 8) rfl rfl rfl ?_); (simp only [List.map_cons, List.map_nil, List.replicate, List.cons_append, List.nil_append, List.append_nil])
  (repeat (first | refine OP.ofE (e1 _) ?_ | refine WF.excE e2 ?_ | sizeOf_list_dec))
  refine HDL.mk ?_
  show (Exc.mk 2 [] true = _ ∧ _)
  exact ⟨rfl, gcM_self⟩
/-- the numbers are none -/
theorem p_playedN (k : Nat) (hs : SvOk m sv) (hc : ∀ r ∈ cs, r.length = m ∧ ∀ v ∈ r, 0 ≤ v) (hcl : cs.length ≤ 5000) {q : PV} (hq : ply 58 q = true) (h : allT idxB q = false ∨ ∃ xs, q = .tup xs ∧ allT idxB q = true ∧ xs.length ≠ cs.length) (M : Store) : F (k + 9) 9 [rowsV sv, rowsV cs, q] M = .exc ⟨2, [], false⟩ M := by
  have e1 := fun M => e_row0 hs M
  have e3 := fun M => fe (p_carr (k + 1) hc hcl (hs.len _ (row_mem hs.ne)) M)
  have e4 := fun M => fe (idxs_any (k + 4) (n := 57) hq M)
  have e6 : ∀ M, OEQ (biP .len M [rowsV cs]) (.int (cs.length : Int)) := fun M => e_lenS cs M
  rcases h with h | ⟨xs, rfl, h, hl⟩
  · rw [h] at e4
    refine WF.eqx (WF.run_ (n := 8) rfl rfl rfl ?_); (simp only [List.map_cons, List.map_nil, List.replicate, List.cons_append, List.nil_append, List.append_nil])
    (repeat (first | refine OP.ofE (e1 _) ?_ | refine WF.okE (e3 _) ?_ | refine WF.okE (e4 _) ?_ | refine OP.ofE (e6 _) ?_ | sizeOf_list_dec))
  · rw [h] at e4
    have hne : ¬ ((xs.length : Int) = (cs.length : Int)) := by omega
    refine WF.eqx (WF.run_ (n := 8) rfl rfl rfl ?_); (simp only [List.map_cons, List.map_nil, List.replicate, List.cons_append, List.nil_append, List.append_nil])
    (repeat (first | refine OP.ofE (e1 _) ?_ | refine WF.okE (e3 _) ?_ | refine WF.okE (e4 _) ?_ | refine OP.ofE (e6 _) ?_ | sizeOf_list_dec))
end
end My
set_option maxHeartbeats 4000000
namespace My
open PySem DI
theorem idxT_last {M : Store} {xs : List PV} {q : PV} : idxP M (.tup (xs ++ [q])) (.int (-1)) = some q := by
  have hi : L2.ixN (xs ++ [q]).length (-1) = some xs.length := by
    unfold L2.ixN
    rw [if_neg (by omega)]
    simp only [List.length_append, List.length_cons, List.length_nil]
    rw [if_pos (by omega)]
    congr 1
    omega
  simp only [idxP, L2.atI, hi]
  simp
def TrOk (m : Nat) (ts : List Tr) : Prop := ∀ t ∈ ts, t.l.length = m ∧ t.g.length = m ∧ t.h.length = m
/-- the longest line -/
def grt (ts : List Tr) (k : Nat) : Int := maxI (0 :: ts.map fun t => t.l.getD k 0)
structure Cx (m : Nat) (sv cs : List (List Int)) (f : List Nat) : Prop where
  s : SvOk m sv
  m1 : 1 ≤ m
  m3 : m ≤ 3
  hc : ∀ r ∈ cs, r.length = m ∧ ∀ v ∈ r, 0 ≤ v
  few : cs.length ≤ 4000
  fo : ∀ n ∈ f, n < sv.length
  l : f.length = cs.length
section
variable {m : Nat} {sv cs : List (List Int)} {f : List Nat}
theorem Cx.pl (h : Cx m sv cs f) : PlOk m sv (cs.zip f) := ⟨fun x hx => h.hc _ (List.of_mem_zip hx).1, fun x hx => h.fo _ (List.of_mem_zip hx).2, by
  rw [List.length_zip]
  have := h.few
  omega⟩
theorem Cx.zl (h : Cx m sv cs f) : (cs.zip f).length = cs.length := by rw [List.length_zip, h.l]; omega
abbrev tsF (m : Nat) (sv cs : List (List Int)) (f : List Nat) : List Tr := (playF sv m (cs.zip f)).2
theorem Cx.tl (h : Cx m sv cs f) : (tsF m sv cs f).length = cs.length := by rw [play_len, h.zl]
theorem Cx.played (h : Cx m sv cs f) (k : Nat) {M : Store} (hM : okS M) : F (k + 9) 9 [rowsV sv, rowsV cs, frV f] M = .ok (.tup [.tup (trsL (tsF m sv cs f)), .tup (trsH (tsF m sv cs f)), .tup (trsG (tsF m sv cs f))]) M :=
  p_played k h.s h.m3 h.hc (by have := h.few; omega) h.fo h.l hM
theorem tr_ok (hs : SvOk m sv) {xs : List (List Int × Nat)} (h : PlOk m sv xs) : TrOk m (playF sv m xs).2 := by
  have key : ∀ (xs : List (List Int × Nat)) (g : List Int × List Tr), (∀ x ∈ xs, x.1.length = m ∧ x.2 < sv.length) → g.1.length = m → TrOk m g.2 → TrOk m (xs.foldl (stepF sv) g).2 := fun xs => by
    induction xs with
    | nil => intro g _ _ hg; exact hg
    | cons x xs ih =>
      intro g hx h1 hg
      rw [List.foldl_cons]
      obtain ⟨h2, h3⟩ := hx x (by simp)
      have q1 := hpF_len h1 h2
      have q2 := gnF_len q1 (hs.len _ (row_mem h3))
      have q3 := lnF_len q1 q2
      refine ih _ (fun y hy => hx y (by simp [hy])) q3 fun t ht => ?_
      rcases List.mem_append.mp ht with ht | ht
      · exact hg t ht
      · rw [List.mem_singleton.mp ht]
        exact ⟨q3, q2, q1⟩
  exact key xs _ (fun x hx => ⟨(h.c x hx).1, h.n x hx⟩) (by simp) fun t ht => by cases ht
theorem Cx.tr (h : Cx m sv cs f) : TrOk m (tsF m sv cs f) := tr_ok h.s h.pl
theorem p_gone (k : Nat) (h : Cx m sv cs f) {M : Store} (hM : okS M) : F (k + 10) 10 [rowsV sv, rowsV cs, frV f] M = .ok (.tup (trsG (tsF m sv cs f))) M := by
  have e1 := fe (h.played k hM)
  refine WF.eq (WF.run_ (n := 0) rfl rfl rfl ?_); (simp only [List.map_cons, List.map_nil, List.replicate, List.cons_append, List.nil_append, List.append_nil])
  (repeat (first | sizeOf_list_dec))
end
end My
set_option maxHeartbeats 4000000
namespace My
open PySem DI
/-- a line is the greatest of what came less what could be served, over the begins -/
structure Lnd (ds : List Int) (w : Int) : Prop where
  nn : 0 ≤ w
  ub : ∀ b < ds.length, (ds.drop b).sum ≤ w
  at' : w = 0 ∨ ∃ b < ds.length, w = (ds.drop b).sum
theorem Lnd.nil : Lnd [] 0 := ⟨Int.le_refl 0, fun b h => by simp at h, .inl rfl⟩
theorem Lnd.snoc {ds : List Int} {w d v : Int} (h : Lnd ds w) (hv : v = max 0 (w + d)) : Lnd (ds ++ [d]) v := by
  have hn := h.nn
  have hs : ∀ b ≤ ds.length, ((ds ++ [d]).drop b).sum = (ds.drop b).sum + d := fun b hb => by
    rw [List.drop_append_of_le_length hb, List.sum_append]
    simp
  refine ⟨by omega, fun b hb => ?_, ?_⟩
  · rw [List.length_append, List.length_singleton] at hb
    rw [hs b (by omega)]
    by_cases hb2 : b < ds.length
    · have := h.ub b hb2
      omega
    · rw [List.drop_of_length_le (by omega), List.sum_nil]
      omega
  · rw [List.length_append, List.length_singleton]
    by_cases hp : w + d ≤ 0
    · exact .inl (by omega)
    · rcases h.at' with h0 | ⟨b, hb, h0⟩
      · exact .inr ⟨ds.length, by omega, by rw [hs _ (Nat.le_refl _), List.drop_of_length_le (Nat.le_refl _), List.sum_nil]; omega⟩
      · exact .inr ⟨b, by omega, by rw [hs _ (by omega)]; omega⟩
theorem zget {l c : List Int} {m k : Nat} (g : Int × Int → Int) (h1 : l.length = m) (h2 : c.length = m) (hk : k < m) : ((l.zip c).map g).getD k 0 = g (l.getD k 0, c.getD k 0) := by
  have hz : k < (l.zip c).length := by rw [List.length_zip]; omega
  rw [List.getD_eq_getElem?_getD, List.getElem?_map, List.getElem?_eq_getElem hz, List.getElem_zip, List.getD_eq_getElem?_getD, List.getD_eq_getElem?_getD, List.getElem?_eq_getElem (by omega), List.getElem?_eq_getElem (by omega)]
  rfl
section
variable {m : Nat} {sv : List (List Int)}
/-- what came less what could be served -/
def dF (sv : List (List Int)) (k : Nat) (x : List Int × Nat) : Int := x.1.getD k 0 - svA sv k x.2
theorem tr_get (hs : SvOk m sv) {l c : List Int} {n k : Nat} (hl : l.length = m) (hc : c.length = m) (hn : n < sv.length) (hk : k < m) : (trF sv l (c, n)).g.getD k 0 = min (l.getD k 0 + c.getD k 0) (svA sv k n) ∧ (trF sv l (c, n)).l.getD k 0 = l.getD k 0 + c.getD k 0 - min (l.getD k 0 + c.getD k 0) (svA sv k n) := by
  have q1 := hpF_len hl hc
  have q0 := hs.len _ (row_mem hn)
  have q2 := gnF_len q1 q0
  have r1 := zget (fun p => p.1 + p.2) hl hc hk
  have r2 := zget (fun p => min p.1 p.2) q1 q0 hk
  have r3 := zget (fun p => p.1 - p.2) q1 q2 hk
  constructor
  · show (gnF (hpF l c) (sv.getD n [])).getD k 0 = _
    unfold gnF
    rw [r2]
    unfold hpF
    rw [r1]
    rfl
  · show (lnF (hpF l c) (gnF (hpF l c) (sv.getD n []))).getD k 0 = _
    unfold lnF
    rw [r3]
    unfold gnF
    rw [r2]
    unfold hpF
    rw [r1]
    rfl
theorem lind (hs : SvOk m sv) {k : Nat} (hk : k < m) {xs : List (List Int × Nat)} (h : ∀ x ∈ xs, x.1.length = m ∧ x.2 < sv.length) :
    Lnd (xs.map (dF sv k)) ((playF sv m xs).1.getD k 0) ∧ (xs.map fun x => x.1.getD k 0).sum = ((playF sv m xs).2.map fun t => t.g.getD k 0).sum + (playF sv m xs).1.getD k 0 ∧ (playF sv m xs).1.length = m := by
  have key : ∀ (n : Nat) (xs : List (List Int × Nat)), xs.length = n → (∀ x ∈ xs, x.1.length = m ∧ x.2 < sv.length) → Lnd (xs.map (dF sv k)) ((playF sv m xs).1.getD k 0) ∧ (xs.map fun x => x.1.getD k 0).sum = ((playF sv m xs).2.map fun t => t.g.getD k 0).sum + (playF sv m xs).1.getD k 0 ∧ (playF sv m xs).1.length = m := fun n => by
    induction n with
    | zero =>
      intro xs hx _
      rw [List.length_eq_zero_iff.mp hx]
      have h0 : (List.replicate m (0 : Int)).getD k 0 = 0 := by
        rw [List.getD_eq_getElem?_getD, List.getElem?_replicate]
        split <;> rfl
      refine ⟨?_, ?_, by simp [playF]⟩
      · show Lnd [] ((List.replicate m (0 : Int)).getD k 0)
        rw [h0]
        exact Lnd.nil
      · show (0 : Int) = 0 + (List.replicate m (0 : Int)).getD k 0
        rw [h0]
        rfl
    | succ n ih =>
      intro xs hx hq
      rcases List.eq_nil_or_concat xs with rfl | ⟨l, x, rfl⟩
      · simp at hx
      rw [List.concat_eq_append] at *
      obtain ⟨i1, i2, i3⟩ := ih l (by simpa using hx) fun y hy => hq y (by simp [hy])
      obtain ⟨c, f⟩ := x
      obtain ⟨h1, h2⟩ := hq (c, f) (by simp)
      obtain ⟨g1, g2⟩ := tr_get hs i3 h1 h2 hk
      rw [play_snoc]
      show Lnd _ ((trF sv (playF sv m l).1 (c, f)).l.getD k 0) ∧ _ = (((playF sv m l).2 ++ [trF sv (playF sv m l).1 (c, f)]).map fun t => t.g.getD k 0).sum + (trF sv (playF sv m l).1 (c, f)).l.getD k 0 ∧ (trF sv (playF sv m l).1 (c, f)).l.length = m
      rw [List.map_append, List.map_append, List.map_append, List.sum_append, List.sum_append, i2]
      simp only [List.map_cons, List.map_nil, List.sum_cons, List.sum_nil]
      rw [g1, g2]
      dsimp only
      refine ⟨Lnd.snoc i1 ?_, by omega, lnF_len (hpF_len i3 h1) (gnF_len (hpF_len i3 h1) (hs.len _ (row_mem h2)))⟩
      unfold dF
      dsimp only
      omega
  exact key _ xs rfl h
theorem play_pre (sv : List (List Int)) (m : Nat) (l r : List (List Int × Nat)) : ∃ r', (playF sv m (l ++ r)).2 = (playF sv m l).2 ++ r' := by
  have key : ∀ (r : List (List Int × Nat)) (g : List Int × List Tr), ∃ r', (r.foldl (stepF sv) g).2 = g.2 ++ r' := fun r => by
    induction r with
    | nil => intro g; exact ⟨[], by simp⟩
    | cons x r ih =>
      intro g
      obtain ⟨r', h⟩ := ih (stepF sv g x)
      exact ⟨trF sv g.1 x :: r', by rw [List.foldl_cons, h]; simp [stepF]⟩
  unfold playF
  rw [List.foldl_append]
  exact key r _
end
theorem tr_nn {m : Nat} {sv : List (List Int)} (hs : SvOk m sv) {xs : List (List Int × Nat)} (h : PlOk m sv xs) : ∀ t ∈ (playF sv m xs).2, (∀ v ∈ t.g, 0 ≤ v) ∧ ∀ v ∈ t.l, 0 ≤ v := by
  have key : ∀ (xs : List (List Int × Nat)) (g : List Int × List Tr), (∀ x ∈ xs, (∀ v ∈ x.1, 0 ≤ v) ∧ x.2 < sv.length) → (∀ v ∈ g.1, 0 ≤ v) → (∀ t ∈ g.2, (∀ v ∈ t.g, 0 ≤ v) ∧ ∀ v ∈ t.l, 0 ≤ v) → ∀ t ∈ (xs.foldl (stepF sv) g).2, (∀ v ∈ t.g, 0 ≤ v) ∧ ∀ v ∈ t.l, 0 ≤ v := fun xs => by
    induction xs with
    | nil => intro g _ _ hg; exact hg
    | cons x xs ih =>
      intro g hx h1 hg
      rw [List.foldl_cons]
      obtain ⟨h2, h3⟩ := hx x (by simp)
      have q1 := hpF_nn h1 h2
      have q2 := gnF_nn q1 fun v hv => (hs.nn _ (row_mem h3) v hv).1
      have q3 := lnF_nn (hpF g.1 x.1) (sv.getD x.2 [])
      refine ih _ (fun y hy => hx y (by simp [hy])) q3 fun t ht => ?_
      rcases List.mem_append.mp ht with ht | ht
      · exact hg t ht
      · rw [List.mem_singleton.mp ht]
        exact ⟨q2, q3⟩
  exact key xs _ (fun x hx => ⟨(h.c x hx).2, h.n x hx⟩) (fun v hv => by rw [List.eq_of_mem_replicate hv]; exact Int.le_refl 0) fun t ht => by cases ht
end My
set_option maxHeartbeats 4000000
namespace My
open PySem DI
/-! ### pieces -/
/-- of each piece its turn -/
def tf (ps : List Int) : List Nat := (ps.zipIdx.map fun p => List.replicate p.1.toNat p.2).flatten
theorem tf_snoc (ps : List Int) (a : Int) : tf (ps ++ [a]) = tf ps ++ List.replicate a.toNat ps.length := by
  unfold tf
  rw [List.zipIdx_append, List.map_append, List.flatten_append]
  simp
theorem tf_len {ps : List Int} (h : ∀ v ∈ ps, 0 ≤ v) : ((tf ps).length : Int) = ps.sum := by
  have key : ∀ (n : Nat) (ps : List Int), ps.length = n → (∀ v ∈ ps, 0 ≤ v) → ((tf ps).length : Int) = ps.sum := fun n => by
    induction n with
    | zero => intro ps hp _; rw [List.length_eq_zero_iff.mp hp]; rfl
    | succ n ih =>
      intro ps hp hv
      rcases List.eq_nil_or_concat ps with rfl | ⟨l, x, rfl⟩
      · simp at hp
      rw [List.concat_eq_append] at *
      have h1 := ih l (by simpa using hp) fun v hv' => hv v (by simp [hv'])
      have h2 := hv x (by simp)
      rw [tf_snoc, List.length_append, List.length_replicate, List.sum_append]
      simp
      omega
  exact key _ ps rfl h
theorem take_sum {ps : List Int} (h : ∀ v ∈ ps, 0 ≤ v) (j : Nat) : 0 ≤ (ps.take j).sum ∧ (ps.take j).sum ≤ ps.sum := by
  have key : ∀ (l : List Int), (∀ v ∈ l, 0 ≤ v) → 0 ≤ l.sum := fun l => by
    induction l with
    | nil => intro _; exact Int.le_refl 0
    | cons x l ih =>
      intro hl
      have := hl x (by simp)
      have := ih fun v hv => hl v (by simp [hv])
      rw [List.sum_cons]
      omega
  have h1 := key (ps.take j) fun v hv => h v (List.mem_of_mem_take hv)
  have h2 := key (ps.drop j) fun v hv => h v (List.mem_of_mem_drop hv)
  have h3 : ps.sum = (ps.take j).sum + (ps.drop j).sum := by rw [← List.sum_append, List.take_append_drop]
  omega
def natsV (l : List Nat) : List PV := l.map fun n : Nat => PV.int (n : Int)
theorem nats_rep (n j : Nat) : natsV (List.replicate n j) = List.replicate n (.int (j : Int)) := by simp [natsV]
theorem nats_app (l r : List Nat) : natsV (l ++ r) = natsV l ++ natsV r := by simp [natsV]
theorem ply_nats (l : List Nat) : ply 2 (.lst (natsV l)) = true := ply_lst fun x hx => by
  obtain ⟨i, _, rfl⟩ := List.mem_map.mp hx
  rfl
theorem turn_ext {ps : List Int} {j : Nat} {x : Int} (h : ps[j]? = some x) : natsV (tf (ps.take (j + 1))) = natsV (tf (ps.take j)) ++ List.replicate x.toNat (.int (j : Int)) := by
  have hj := (List.getElem?_eq_some_iff.mp h).1
  rw [List.take_succ, h]
  show natsV (tf (ps.take j ++ [x])) = _
  rw [tf_snoc, nats_app, nats_rep, List.length_take, Nat.min_eq_left (by omega)]
theorem p_turnsL (k : Nat) {ps : List Int} (h : ∀ v ∈ ps, 0 ≤ v) (hs : ps.sum ≤ 20000) {M : Store} (hM : okS M) : F (k + 1) 11 [.lst (ps.map .int)] M = .ok (.lst (natsV (tf ps))) M := by
  have hz : 10000000 ≤ sizeLine := by decide
  refine WF.eq (WF.run_ (n := 3) rfl rfl rfl ?_); (simp only [List.map_cons, List.map_nil, List.replicate, List.cons_append, List.nil_append, List.append_nil])
  (repeat (first | sizeOf_list_dec))
  refine FOR.enum (items := ps) .int (fun j sp M' => ∃ q2 q3, sp = [some (.lst (ps.map .int)), some (.ref M.length), q2, q3] ∧ M' = M ++ [some (.lst (natsV (tf (ps.take j))))]) ⟨_, _, rfl, rfl⟩ (fun j x sp M' hj hI => ?_) fun sp M' hI => ?_
  · obtain ⟨q2, q3, rfl, rfl⟩ := hI
    obtain ⟨n, rfl⟩ : ∃ n : Nat, x = (n : Int) := ⟨x.toNat, by have := h x (List.mem_of_getElem? hj); omega⟩
    have h1 := tf_len (ps := ps.take j) fun v hv => h v (List.mem_of_mem_take hv)
    have h2 := tf_len (ps := ps.take (j + 1)) fun v hv => h v (List.mem_of_mem_take hv)
    have h3 := (take_sum h j).2
    have h4 := (take_sum h (j + 1)).2
    have h5 := congrArg List.length (turn_ext hj)
    simp only [natsV, List.length_map, List.length_append, List.length_replicate, Int.toNat_natCast] at h5
    have hn : n ≤ 20000 := by omega
    rw [turn_ext hj, Int.toNat_natCast]
    (repeat (first | refine WE.meth ?_ | refine And.intro (mAppend lstAt_last) ?_ | refine OP.mulL1 (by omega) ?_ | sizeOf_list_dec))
    refine BMX.ext (xs := natsV (tf (ps.take j))) (ys := List.replicate n (.int (j : Int))) (q := .lst (List.replicate n (.int (j : Int)))) lstAt_last rfl (by simp only [natsV, List.length_map, List.length_replicate]; omega) ?_
    rw [show M.length = M.length + 0 from rfl, set_app]
    (repeat (first | sizeOf_list_dec))
    exact ⟨_, _, rfl, rfl⟩
  · obtain ⟨q2, q3, rfl, rfl⟩ := hI
    rw [List.take_length]
    (repeat (first | sizeOf_list_dec))
    exact ⟨rfl, gcA hM (ply_nats _)⟩
theorem p_turnsT (k : Nat) {ps : List Int} (h : ∀ v ∈ ps, 0 ≤ v) (hs : ps.sum ≤ 20000) {M : Store} (hM : okS M) : F (k + 1) 11 [.tup (ps.map .int)] M = .ok (.lst (natsV (tf ps))) M := by
  have hz : 10000000 ≤ sizeLine := by decide
  refine WF.eq (WF.run_ (n := 3) rfl rfl rfl ?_); (simp only [List.map_cons, List.map_nil, List.replicate, List.cons_append, List.nil_append, List.append_nil])
  (repeat (first | sizeOf_list_dec))
  refine FOR.enum (items := ps) .int (fun j sp M' => ∃ q2 q3, sp = [some (.tup (ps.map .int)), some (.ref M.length), q2, q3] ∧ M' = M ++ [some (.lst (natsV (tf (ps.take j))))]) ⟨_, _, rfl, rfl⟩ (fun j x sp M' hj hI => ?_) fun sp M' hI => ?_
  · obtain ⟨q2, q3, rfl, rfl⟩ := hI
    obtain ⟨n, rfl⟩ : ∃ n : Nat, x = (n : Int) := ⟨x.toNat, by have := h x (List.mem_of_getElem? hj); omega⟩
    have h1 := tf_len (ps := ps.take j) fun v hv => h v (List.mem_of_mem_take hv)
    have h2 := tf_len (ps := ps.take (j + 1)) fun v hv => h v (List.mem_of_mem_take hv)
    have h3 := (take_sum h j).2
    have h4 := (take_sum h (j + 1)).2
    have h5 := congrArg List.length (turn_ext hj)
    simp only [natsV, List.length_map, List.length_append, List.length_replicate, Int.toNat_natCast] at h5
    have hn : n ≤ 20000 := by omega
    rw [turn_ext hj, Int.toNat_natCast]
    (repeat (first | refine WE.meth ?_ | refine And.intro (mAppend lstAt_last) ?_ | refine OP.mulL1 (by omega) ?_ | sizeOf_list_dec))
    refine BMX.ext (xs := natsV (tf (ps.take j))) (ys := List.replicate n (.int (j : Int))) (q := .lst (List.replicate n (.int (j : Int)))) lstAt_last rfl (by simp only [natsV, List.length_map, List.length_replicate]; omega) ?_
    rw [show M.length = M.length + 0 from rfl, set_app]
    (repeat (first | sizeOf_list_dec))
    exact ⟨_, _, rfl, rfl⟩
  · obtain ⟨q2, q3, rfl, rfl⟩ := hI
    rw [List.take_length]
    (repeat (first | sizeOf_list_dec))
    exact ⟨rfl, gcA hM (ply_nats _)⟩
end My
set_option maxHeartbeats 4000000
namespace My
open PySem DI
def col (rs : List (List Int)) (j : Nat) : List Int := rs.map fun r => r.getD j 0
def gcol (ts : List Tr) (j : Nat) : List Int := ts.map fun t => t.g.getD j 0
def optV : Option Nat → PV
  | none => .non
  | some w => .int (w : Int)
def dpV (G : List Int) (p : Nat × Nat) : PV := .tup [.int (p.1 : Int), optV (tf G)[p.2]?]
def dlV (A G : List Int) : PV := .tup ((tf A).zipIdx.map (dpV G))
def dd (G : List Int) (p : Nat × Nat) : Int := match (tf G)[p.2]? with
  | some w => (w : Int) - (p.1 : Int) + 1
  | none => 0
def dmx (A G : List Int) : Int := maxI (0 :: (tf A).zipIdx.map (dd G))
section
variable {m : Nat} {sv cs : List (List Int)} {f : List Nat} {j : Nat}
theorem col_nn (h : Cx m sv cs f) : ∀ v ∈ col cs j, 0 ≤ v := fun v hv => by
  obtain ⟨r, hr, rfl⟩ := List.mem_map.mp hv
  rw [List.getD_eq_getElem?_getD]
  cases hg : r[j]? with
  | none => exact Int.le_refl 0
  | some v => exact (h.hc r hr).2 v (List.mem_of_getElem? hg)
theorem gcol_nn (h : Cx m sv cs f) : ∀ v ∈ gcol (tsF m sv cs f) j, 0 ≤ v := fun v hv => by
  obtain ⟨t, ht, rfl⟩ := List.mem_map.mp hv
  rw [List.getD_eq_getElem?_getD]
  cases hg : t.g[j]? with
  | none => exact Int.le_refl 0
  | some v => exact (tr_nn h.s h.pl t ht).1 v (List.mem_of_getElem? hg)
theorem Cx.m1' (h : Cx m sv cs f) : cs = (cs.zip f).map Prod.fst := (List.map_fst_zip (by rw [h.l]; exact Nat.le_refl _)).symm
theorem gcol_le (h : Cx m sv cs f) (hj : j < m) : (gcol (tsF m sv cs f) j).sum ≤ (col cs j).sum := by
  obtain ⟨h1, h2, _⟩ := lind h.s hj (xs := cs.zip f) fun x hx => ⟨(h.pl.c x hx).1, h.pl.n x hx⟩
  have h3 := h1.nn
  have h4 : ((cs.zip f).map fun x => x.1.getD j 0) = col cs j := by
    unfold col
    conv => rhs; rw [h.m1']
    rw [List.map_map]
    rfl
  rw [h4] at h2
  show ((playF sv m (cs.zip f)).2.map fun t => t.g.getD j 0).sum ≤ _
  omega
theorem p_comes_of (k : Nat) (h : Cx m sv cs f) (hj : j < m) (M : Store) : F (k + 1) 6 [rowsV cs, .int (j : Int)] M = .ok (tupI (col cs j)) M := by
  refine WF.eq (WF.run_ (n := 1) rfl rfl rfl ?_); (simp only [List.map_cons, List.map_nil, List.replicate, List.cons_append, List.nil_append, List.append_nil])
  (repeat (first | sizeOf_list_dec))
  refine CMP.map (items := cs) (fun r => .int (r.getD j 0)) tupI (gd0 _) (fun r hr => ?_) ?_
  · have e1 : ∀ M, OEQ (idxP M (tupI r) (.int (j : Int))) (.int (r.getD j 0)) := fun M => ⟨idx_getT' (getI _ (Nat.le_refl _) (by rw [(h.hc r hr).1]; exact hj))⟩
    (repeat (first | refine OP.ofE (e1 _) ?_ | sizeOf_list_dec))
  (repeat (first | sizeOf_list_dec))
  exact ⟨by show PV.tup _ = PV.tup _; unfold col; rw [List.map_map]; rfl, gcM_self⟩
theorem p_delays (k : Nat) (h : Cx m sv cs f) (hj : j < m) (hs : (col cs j).sum ≤ 20000) {M : Store} (hM : okS M) : F (k + 11) 12 [rowsV sv, rowsV cs, frV f, .int (j : Int)] M = .ok (dlV (col cs j) (gcol (tsF m sv cs f) j)) M := by
  have hA := col_nn (j := j) h
  have hG := gcol_nn (j := j) h
  have hle := gcol_le h hj
  have e1 := fe (p_gone k h hM)
  have e2 := fun M => fe (idx_nat (k + 8) j M)
  have e3 := fun M => e_row0 h.s M
  have e4 := fun M => e_len0 h.s M
  have e5 := fe (p_comes_of (k + 9) h hj M)
  have e6 := fe (p_turnsL (k + 9) hG (by omega) hM)
  have e7 := fe (p_turnsT (k + 9) hA hs hM)
  have e8 : ∀ M, OEQ (biP .sum M [tupI (col cs j)]) (.int (col cs j).sum) := fun M => ⟨by
    show (intsOf ((col cs j).map .int)).map (fun ns => PV.int ns.sum) = _
    rw [intsOf_m]
    rfl⟩
  have htr := h.tr
  generalize tsF m sv cs f = ts at *
  refine WF.eq (WF.run_ (n := 7) rfl rfl rfl ?_); (simp only [List.map_cons, List.map_nil, List.replicate, List.cons_append, List.nil_append, List.append_nil])
  (repeat (first | refine OP.ofE (e3 _) ?_ | refine OP.ofE (e4 _) ?_ | refine WF.okE (e2 _) ?_ | refine OP.ofE (e8 _) ?_ | sizeOf_list_dec))
  refine CMP.map (items := ts) (fun t => .int (t.g.getD j 0)) (fun t => tupI t.g) (gd0 _) (fun t ht => ?_) ?_
  · have e9 : ∀ M, OEQ (idxP M (tupI t.g) (.int (j : Int))) (.int (t.g.getD j 0)) := fun M => ⟨idx_getT' (getI _ (Nat.le_refl _) (by rw [(htr t ht).2.1]; exact hj))⟩
    (repeat (first | refine OP.ofE (e9 _) ?_ | sizeOf_list_dec))
  rw [show (ts.map fun t => PV.int (t.g.getD j 0)) = (gcol ts j).map .int by unfold gcol; rw [List.map_map]; rfl]
  (repeat (first | sizeOf_list_dec))
  rw [show natsV (tf (col cs j)) = (tf (col cs j)).map fun n : Nat => PV.int (n : Int) from rfl, enumLA]
  refine CMP.map (items := (tf (col cs j)).zipIdx) (dpV (gcol ts j)) _ (gd0 _) (fun p hp => ?_) ?_
  · have e10 : ∀ M, OEQ (biP .len M [.lst (natsV (tf (gcol ts j)))]) (.int ((tf (gcol ts j)).length : Int)) := fun M => ⟨by
      show some (PV.int ((natsV (tf (gcol ts j))).length : Int)) = _
      simp [natsV]⟩
    by_cases hl : p.2 < (tf (gcol ts j)).length
    · have hg := List.getElem?_eq_getElem hl
      have e11 : ∀ M, OEQ (idxP M (.lst (natsV (tf (gcol ts j)))) (.int (p.2 : Int))) (.int ((tf (gcol ts j))[p.2] : Int)) := fun M => ⟨idx_getL' (by unfold natsV; rw [List.getElem?_map, hg]; rfl)⟩
      (repeat (first | refine OP.ofE (e10 _) ?_ | refine OP.ofE (e11 _) ?_ | sizeOf_list_dec))
      exact ⟨by unfold dpV; rw [hg]; rfl, rfl⟩
    · have hg := List.getElem?_eq_none (l := tf (gcol ts j)) (i := p.2) (by omega)
      (repeat (first | refine OP.ofE (e10 _) ?_ | sizeOf_list_dec))
      exact ⟨by unfold dpV; rw [hg]; rfl, rfl⟩
  (repeat (first | sizeOf_list_dec))
end
end My
set_option maxHeartbeats 4000000
namespace My
open PySem DI
theorem biMaxRl {M : Store} {n : Nat} {xs : List PV} (h : lstAt M n = some xs) : biP .max M [.ref n] = biP .max M [.lst xs] := by
  show maxL M (.ref n) = maxL M (.lst xs)
  have e1 : itemsL M (.ref n) = some xs := h
  have e2 : itemsL M (.lst xs) = some xs := rfl
  unfold maxL
  rw [e1, e2]
section
variable {m : Nat} {sv cs : List (List Int)} {f : List Nat} {j : Nat}
theorem p_greatest (k : Nat) (h : Cx m sv cs f) (hj : j < m) (hs : (col cs j).sum ≤ 20000) {M : Store} (hM : OS M) : F (k + 12) 13 [rowsV sv, rowsV cs, frV f, .int (j : Int)] M = .ok (.int (dmx (col cs j) (gcol (tsF m sv cs f) j))) M := by
  have hz : 10000000 ≤ sizeLine := by decide
  have hM1 : okS (M ++ [some (.lst [.int 0])]) := (hM.app (O0.lst (n := 1) fun x hx => by rw [List.mem_singleton.mp hx]; rfl)).ok
  have e1 := fe (p_delays k h hj hs hM1)
  have hl := tf_len (col_nn (j := j) h)
  generalize col cs j = A at *
  generalize gcol (tsF m sv cs f) j = G at *
  refine WF.eq (WF.run_ (n := 3) rfl rfl rfl ?_); (simp only [List.map_cons, List.map_nil, List.replicate, List.cons_append, List.nil_append, List.append_nil])
  (repeat (first | sizeOf_list_dec))
  refine FOR.pre0 (dpV G) (fun l sp M' => ∃ q5 q6, sp = [some (rowsV sv), some (rowsV cs), some (frV f), some (.int (j : Int)), some (.ref M.length), q5, q6] ∧ M' = M ++ [some (.lst (PV.int 0 :: l.map fun p => .int (dd G p)))]) ⟨_, _, rfl, rfl⟩ (fun l p post sp M' he hI => ?_) fun sp M' hI => ?_
  · obtain ⟨q5, q6, rfl, rfl⟩ := hI
    have hll : l.length < 20000 := by
      have := congrArg List.length he
      rw [List.length_zipIdx, List.length_append, List.length_cons] at this
      omega
    cases hg : (tf G)[p.2]? with
    | none =>
      have hd : dd G p = 0 := by unfold dd; rw [hg]
      have hp : dpV G p = .tup [.int (p.1 : Int), .non] := by unfold dpV; rw [hg]; rfl
      rw [hp]
      (repeat (first | sizeOf_list_dec))
      refine ⟨_, _, rfl, ?_⟩
      rw [List.map_append, List.map_singleton, hd]
      rfl
    | some w =>
      have hd : dd G p = (w : Int) - (p.1 : Int) + 1 := by unfold dd; rw [hg]
      have hp : dpV G p = .tup [.int (p.1 : Int), .int (w : Int)] := by unfold dpV; rw [hg]; rfl
      rw [hp]
      (repeat (first | sizeOf_list_dec))
      refine ⟨_, _, rfl, ?_⟩
      rw [List.map_append, List.map_singleton, hd]
      rfl
  · obtain ⟨q5, q6, rfl, rfl⟩ := hI
    have e6 : OEQ (biP .max (M ++ [some (.lst (PV.int 0 :: (tf A).zipIdx.map fun p => .int (dd G p)))]) [.ref M.length]) (.int (dmx A G)) := ⟨by
      have := biMaxL (M := M ++ [some (.lst (PV.int 0 :: (tf A).zipIdx.map fun p => .int (dd G p)))]) (n := 0) (l := (tf A).zipIdx.map (dd G))
      rw [List.map_cons, List.map_map] at this
      exact (biMaxRl lstAt_last).trans this⟩
    (repeat (first | refine OP.ofE e6 ?_ | sizeOf_list_dec))
    exact ⟨rfl, gcA (n := 1) hM.ok (by rfl)⟩
end
end My
set_option maxHeartbeats 4000000
namespace My
open PySem DI
/-- no play of these -/
def NoPl (s p q : PV) : Prop := ∀ (k : Nat) (M : Store), okS M → ∃ b, F (k + 9) 9 [s, p, q] M = .exc ⟨2, [], b⟩ M
theorem x_gone (k : Nat) {s p q : PV} {M : Store} (h : NoPl s p q) (hM : okS M) : ∃ b, F (k + 10) 10 [s, p, q] M = .exc ⟨2, [], b⟩ M := by
  obtain ⟨b, hb⟩ := h k M hM
  have e0 := fx hb
  refine ⟨b, ?_⟩
  refine WF.eqx (WF.run_ (n := 0) rfl rfl rfl ?_); (simp only [List.map_cons, List.map_nil, List.replicate, List.cons_append, List.nil_append, List.append_nil])
  (repeat (first | sizeOf_list_dec))
theorem x_delays (k : Nat) {s p q t : PV} {M : Store} (h : NoPl s p q) (hM : okS M) : ∃ b, F (k + 11) 12 [s, p, q, t] M = .exc ⟨2, [], b⟩ M := by
  obtain ⟨b, hb⟩ := x_gone k h hM
  have e0 := fx hb
  refine ⟨b, ?_⟩
  refine WF.eqx (WF.run_ (n := 7) rfl rfl rfl ?_); (simp only [List.map_cons, List.map_nil, List.replicate, List.cons_append, List.nil_append, List.append_nil])
  (repeat (first | sizeOf_list_dec))
theorem x_greatest (k : Nat) {s p q t : PV} {x : Exc} (hx : ∀ n, okRefs n x.fs = true) (h : ∀ M, okS M → F (k + 11) 12 [s, p, q, t] M = .exc x M) {M : Store} (hM : OS M) : F (k + 12) 13 [s, p, q, t] M = .exc x M := by
  have hM1 : okS (M ++ [some (.lst [.int 0])]) := (hM.app (O0.lst (n := 1) fun x hx => by rw [List.mem_singleton.mp hx]; rfl)).ok
  have e0 := fx (h _ hM1)
  refine WF.eqx (WF.run_ (n := 3) rfl rfl rfl ?_); (simp only [List.map_cons, List.map_nil, List.replicate, List.cons_append, List.nil_append, List.append_nil])
  (repeat (first | sizeOf_list_dec))
  exact ⟨rfl, gcM_app hM.ok (hx _)⟩
def OddS (m : Nat) (p : PV) : Prop := p = .int (m : Int) ∨ p = .int (-1) ∨ p = .bl true ∨ p = .non
section
variable {m : Nat} {sv cs : List (List Int)} {f : List Nat} {j : Nat}
theorem o_delays (k : Nat) (h : Cx m sv cs f) {od : PV} (ho : OddS m od) {M : Store} (hM : okS M) : F (k + 11) 12 [rowsV sv, rowsV cs, frV f, od] M = .exc ⟨2, [], false⟩ M := by
  have e1 := fe (p_gone k h hM)
  have e3 := fun M => e_row0 h.s M
  have e4 := fun M => e_len0 h.s M
  rcases ho with rfl | rfl | rfl | rfl
  · have e2 := fun M => fe (idx_nat (k + 8) m M)
    refine WF.eqx (WF.run_ (n := 7) rfl rfl rfl ?_); (simp only [List.map_cons, List.map_nil, List.replicate, List.cons_append, List.nil_append, List.append_nil])
    (repeat (first | refine OP.ofE (e3 _) ?_ | refine OP.ofE (e4 _) ?_ | refine WF.okE (e2 _) ?_ | sizeOf_list_dec))
  · have e2 : ∀ M, FEQ _ _ _ _ (.bl false) _ := fun M => fe (idx_any (k + 8) (p := .int (-1)) rfl M)
    refine WF.eqx (WF.run_ (n := 7) rfl rfl rfl ?_); (simp only [List.map_cons, List.map_nil, List.replicate, List.cons_append, List.nil_append, List.append_nil])
    (repeat (first | refine OP.ofE (e3 _) ?_ | refine OP.ofE (e4 _) ?_ | refine WF.okE (e2 _) ?_ | sizeOf_list_dec))
  · have e2 : ∀ M, FEQ _ _ _ _ (.bl false) _ := fun M => fe (idx_any (k + 8) (p := .bl true) rfl M)
    refine WF.eqx (WF.run_ (n := 7) rfl rfl rfl ?_); (simp only [List.map_cons, List.map_nil, List.replicate, List.cons_append, List.nil_append, List.append_nil])
    (repeat (first | refine OP.ofE (e3 _) ?_ | refine OP.ofE (e4 _) ?_ | refine WF.okE (e2 _) ?_ | sizeOf_list_dec))
  · have e2 : ∀ M, FEQ _ _ _ _ (.bl false) _ := fun M => fe (idx_any (k + 8) (p := .non) rfl M)
    refine WF.eqx (WF.run_ (n := 7) rfl rfl rfl ?_); (simp only [List.map_cons, List.map_nil, List.replicate, List.cons_append, List.nil_append, List.append_nil])
    (repeat (first | refine OP.ofE (e3 _) ?_ | refine OP.ofE (e4 _) ?_ | refine WF.okE (e2 _) ?_ | sizeOf_list_dec))
theorem l_delays (k : Nat) (h : Cx m sv cs f) (hj : j < m) (hs : 20000 < (col cs j).sum) {M : Store} (hM : okS M) : F (k + 11) 12 [rowsV sv, rowsV cs, frV f, .int (j : Int)] M = .exc ⟨1, [.str "pieces", .int 20000], false⟩ M := by
  have e1 := fe (p_gone k h hM)
  have e2 := fun M => fe (idx_nat (k + 8) j M)
  have e3 := fun M => e_row0 h.s M
  have e4 := fun M => e_len0 h.s M
  have e5 := fe (p_comes_of (k + 9) h hj M)
  have e8 : ∀ M, OEQ (biP .sum M [tupI (col cs j)]) (.int (col cs j).sum) := fun M => ⟨by
    show (intsOf ((col cs j).map .int)).map (fun ns => PV.int ns.sum) = _
    rw [intsOf_m]
    rfl⟩
  refine WF.eqx (WF.run_ (n := 7) rfl rfl rfl ?_); (simp only [List.map_cons, List.map_nil, List.replicate, List.cons_append, List.nil_append, List.append_nil])
  (repeat (first | refine OP.ofE (e3 _) ?_ | refine OP.ofE (e4 _) ?_ | refine WF.okE (e2 _) ?_ | refine OP.ofE (e8 _) ?_ | sizeOf_list_dec))
end
/-! ### frames -/
def OddF (p : PV) : Prop := p = .tup [] ∨ p = .non ∨ p = .lst [.int 0] ∨ p = .tup [.int (-1)] ∨ p = .tup [.bl true]
theorem x_frame (k : Nat) {p : PV} (h : OddF p) (M : Store) : F (k + 5) 14 [p, .int 3] M = .exc ⟨2, [], false⟩ M := by
  rcases h with rfl | rfl | rfl | rfl | rfl
  · have e0 : ∀ M, FEQ _ _ _ _ (.bl true) _ := fun M => fe (idxs_any k (n := 2) (p := .tup []) rfl M)
    have e1 : ∀ M, OEQ (cmpP .Eq M (.tup []) (.tup [])) (.bl true) := fun M => ⟨eqP_same (M := M) (p := .tup []) rfl⟩
    refine WF.eqx (WF.run_ (n := 1) rfl rfl rfl ?_); (simp only [List.map_cons, List.map_nil, List.replicate, List.cons_append, List.nil_append, List.append_nil])
    (repeat (first | refine WF.okE (e0 _) ?_ | refine OP.ofE (e1 _) ?_ | sizeOf_list_dec))
  · have e0 : ∀ M, FEQ _ _ _ _ (.bl false) _ := fun M => fe (idxs_any k (n := 2) (p := .non) rfl M)
    refine WF.eqx (WF.run_ (n := 1) rfl rfl rfl ?_); (simp only [List.map_cons, List.map_nil, List.replicate, List.cons_append, List.nil_append, List.append_nil])
    (repeat (first | refine WF.okE (e0 _) ?_ | sizeOf_list_dec))
  · have e0 : ∀ M, FEQ _ _ _ _ (.bl false) _ := fun M => fe (idxs_any k (n := 2) (p := .lst [.int 0]) rfl M)
    refine WF.eqx (WF.run_ (n := 1) rfl rfl rfl ?_); (simp only [List.map_cons, List.map_nil, List.replicate, List.cons_append, List.nil_append, List.append_nil])
    (repeat (first | refine WF.okE (e0 _) ?_ | sizeOf_list_dec))
  · have e0 : ∀ M, FEQ _ _ _ _ (.bl false) _ := fun M => fe (idxs_any k (n := 2) (p := .tup [.int (-1)]) rfl M)
    refine WF.eqx (WF.run_ (n := 1) rfl rfl rfl ?_); (simp only [List.map_cons, List.map_nil, List.replicate, List.cons_append, List.nil_append, List.append_nil])
    (repeat (first | refine WF.okE (e0 _) ?_ | sizeOf_list_dec))
  · have e0 : ∀ M, FEQ _ _ _ _ (.bl false) _ := fun M => fe (idxs_any k (n := 2) (p := .tup [.bl true]) rfl M)
    refine WF.eqx (WF.run_ (n := 1) rfl rfl rfl ?_); (simp only [List.map_cons, List.map_nil, List.replicate, List.cons_append, List.nil_append, List.append_nil])
    (repeat (first | refine WF.okE (e0 _) ?_ | sizeOf_list_dec))
theorem fr_idx (f : List Nat) : allT idxB (frV f) = true := by
  show (f.map fun n : Nat => PV.int (n : Int)).all idxB = true
  rw [List.all_eq_true]
  intro y hy
  obtain ⟨i, hi, rfl⟩ := List.mem_map.mp hy
  simp [idxB]
theorem ply_frl (f : List Nat) (n : Nat) : ∀ x ∈ f.map fun n : Nat => PV.int (n : Int), ply (n + 1) x = true := fun x hx => by
  obtain ⟨i, _, rfl⟩ := List.mem_map.mp hx
  rfl
theorem ply_fr (f : List Nat) (n : Nat) : ply (n + 2) (frV f) = true := ply_tup (ply_frl f n)
theorem eq_nilF (f : List Nat) (M : Store) : OEQ (cmpP .Eq M (frV f) (.tup [])) (.bl (decide (f = []))) := ⟨eq_c (M := M) (cln_tup (n := 59) fun x hx => by
    obtain ⟨i, _, rfl⟩ := List.mem_map.mp hx
    rfl) (q := .tup []) rfl ⟨fun h => by
    injection h with h
    simpa using h, fun h => by rw [h]; rfl⟩⟩
def OddT (p : PV) : Prop := p = .int (-1) ∨ p = .int 5001 ∨ p = .non ∨ p = .bl true
theorem t_frame (k : Nat) {f : List Nat} (hf : f ≠ []) {p : PV} (h : OddT p) (M : Store) : F (k + 5) 14 [frV f, p] M = .exc ⟨2, [], false⟩ M := by
  have e0 := fun M => fe (idxs_any k (n := 2) (ply_fr f 1) M)
  rw [fr_idx] at e0
  have e1 := fun M => eq_nilF f M
  rcases h with rfl | rfl | rfl | rfl
  · have e2 : ∀ M, FEQ _ _ _ _ (.bl false) _ := fun M => fe (idx_any (k + 2) (p := .int (-1)) rfl M)
    refine WF.eqx (WF.run_ (n := 1) rfl rfl rfl ?_); (simp only [List.map_cons, List.map_nil, List.replicate, List.cons_append, List.nil_append, List.append_nil])
    (repeat (first | refine WF.okE (e0 _) ?_ | refine OP.ofE (e1 _) ?_ | refine WF.okE (e2 _) ?_ | sizeOf_list_dec))
  · have e2 : ∀ M, FEQ _ _ _ _ (.bl true) _ := fun M => fe (idx_any (k + 2) (p := .int 5001) rfl M)
    refine WF.eqx (WF.run_ (n := 1) rfl rfl rfl ?_); (simp only [List.map_cons, List.map_nil, List.replicate, List.cons_append, List.nil_append, List.append_nil])
    (repeat (first | refine WF.okE (e0 _) ?_ | refine OP.ofE (e1 _) ?_ | refine WF.okE (e2 _) ?_ | sizeOf_list_dec))
  · have e2 : ∀ M, FEQ _ _ _ _ (.bl false) _ := fun M => fe (idx_any (k + 2) (p := .non) rfl M)
    refine WF.eqx (WF.run_ (n := 1) rfl rfl rfl ?_); (simp only [List.map_cons, List.map_nil, List.replicate, List.cons_append, List.nil_append, List.append_nil])
    (repeat (first | refine WF.okE (e0 _) ?_ | refine OP.ofE (e1 _) ?_ | refine WF.okE (e2 _) ?_ | sizeOf_list_dec))
  · have e2 : ∀ M, FEQ _ _ _ _ (.bl false) _ := fun M => fe (idx_any (k + 2) (p := .bl true) rfl M)
    refine WF.eqx (WF.run_ (n := 1) rfl rfl rfl ?_); (simp only [List.map_cons, List.map_nil, List.replicate, List.cons_append, List.nil_append, List.append_nil])
    (repeat (first | refine WF.okE (e0 _) ?_ | refine OP.ofE (e1 _) ?_ | refine WF.okE (e2 _) ?_ | sizeOf_list_dec))
def bfV (f : List Nat) (t : Nat) : PV := .tup ((List.range t).map fun n => .int ((f.getD (n % f.length) 0 : Nat) : Int))
theorem e_frm {f : List Nat} (hf : f ≠ []) (n : Nat) (M : Store) : OEQ (idxP M (frV f) (.int (Int.fmod (n : Int) (f.length : Int)))) (.int ((f.getD (n % f.length) 0 : Nat) : Int)) := by
  have hl : n % f.length < f.length := Nat.mod_lt _ (List.length_pos_iff.mpr hf)
  rw [show Int.fmod (n : Int) (f.length : Int) = ((n % f.length : Nat) : Int) by rw [Int.fmod_eq_emod_of_nonneg _ (by omega)]; omega]
  exact ⟨idx_getT' (by rw [List.getElem?_map, List.getD_eq_getElem?_getD, List.getElem?_eq_getElem hl]; rfl)⟩
theorem e_lenF (f : List Nat) (M : Store) : OEQ (biP .len M [frV f]) (.int (f.length : Int)) := ⟨by
  show some (PV.int ((f.map fun n : Nat => PV.int (n : Int)).length : Int)) = _
  rw [List.length_map]⟩
theorem p_frame (k : Nat) {f : List Nat} (hf : f ≠ []) {t : Nat} (ht : t ≤ 5000) (M : Store) : F (k + 5) 14 [frV f, .int (t : Int)] M = .ok (bfV f t) M := by
  have e0 := fun M => fe (idxs_any k (n := 2) (ply_fr f 1) M)
  rw [fr_idx] at e0
  have e1 := fun M => eq_nilF f M
  have e2 := fun M => fe (idx_nat (k + 2) t M)
  have e3 := fun M => e_lenF f M
  have hl : ¬ (f.length : Int) = 0 := by
    have := List.length_pos_iff.mpr hf
    omega
  refine WF.eq (WF.run_ (n := 1) rfl rfl rfl ?_); (simp only [List.map_cons, List.map_nil, List.replicate, List.cons_append, List.nil_append, List.append_nil])
  (repeat (first | refine WF.okE (e0 _) ?_ | refine OP.ofE (e1 _) ?_ | refine WF.okE (e2 _) ?_ | sizeOf_list_dec))
  refine CMP.map (items := List.range t) (fun n : Nat => .int ((f.getD (n % f.length) 0 : Nat) : Int)) _ (gd0 _) (fun n hn => ?_) ?_
  · have e4 := fun M => e_frm hf n M
    (repeat (first | refine OP.ofE (e3 _) ?_ | refine OP.ofE (e4 _) ?_ | sizeOf_list_dec))
  (repeat (first | sizeOf_list_dec))
end My
set_option maxHeartbeats 4000000
namespace My
open PySem DI
/-! ### first come, first served -/
section
variable {m : Nat} {sv cs : List (List Int)} {f : List Nat} {j : Nat}
theorem Cx.zl' (h : Cx m sv cs f) : (cs.zip f).length = cs.length := by rw [List.length_zip, h.l]; omega
theorem gsum_le (h : Cx m sv cs f) (hj : j < m) (e : Nat) : ((gcol (tsF m sv cs f) j).take e).sum ≤ ((col cs j).take e).sum := by
  obtain ⟨h1, h2, _⟩ := lind h.s hj (xs := (cs.zip f).take e) fun x hx => ⟨(h.pl.c x (List.mem_of_mem_take hx)).1, h.pl.n x (List.mem_of_mem_take hx)⟩
  have h3 := h1.nn
  have h4 : (((cs.zip f).take e).map fun x => x.1.getD j 0) = (col cs j).take e := by
    unfold col
    conv => rhs; rw [h.m1']
    rw [← List.map_take, ← List.map_take, List.map_map]
    rfl
  obtain ⟨r', hr⟩ := play_pre sv m ((cs.zip f).take e) ((cs.zip f).drop e)
  rw [List.take_append_drop] at hr
  have hpn := play_len sv m ((cs.zip f).take e)
  have hpl := play_len sv m (cs.zip f)
  have h5 : (gcol (tsF m sv cs f) j).take e = (playF sv m ((cs.zip f).take e)).2.map fun t => t.g.getD j 0 := by
    unfold gcol
    rw [← List.map_take]
    congr 1
    show ((playF sv m (cs.zip f)).2).take e = _
    by_cases he : e ≤ (cs.zip f).length
    · rw [List.length_take, Nat.min_eq_left he] at hpn
      rw [hr, List.take_append_of_le_length (by omega), List.take_of_length_le (by omega)]
    · rw [List.take_of_length_le (l := cs.zip f) (by omega), List.take_of_length_le (by omega)]
  rw [h4] at h2
  rw [h5]
  omega
end
/-- the dict tells of each piece that went its turn -/
structure DOk (d : List (L2.Key × PV)) (w : List Nat) : Prop where
  len : d.length ≤ w.length
  get : ∀ i : Nat, getA d (.inl (i : Int)) = (w[i]?).map fun t : Nat => PV.int (t : Int)
  ply : ∀ x ∈ d.map (·.2), ply 1 x = true
theorem DOk.nil : DOk [] [] := ⟨Nat.le_refl _, fun i => rfl, fun x hx => by cases hx⟩
theorem DOk.put {d : List (L2.Key × PV)} {w : List Nat} (h : DOk d w) (t : Nat) : DOk (putA d (.inl (w.length : Int)) (.int (t : Int))) (w ++ [t]) := by
  refine ⟨?_, fun i => ?_, fun x hx => ?_⟩
  · have := putA_len d (.inl (w.length : Int)) (.int (t : Int))
    have := h.len
    rw [List.length_append, List.length_singleton]
    omega
  · rw [getA_put, h.get]
    by_cases hi : i = w.length
    · subst hi
      rw [if_pos rfl, List.getElem?_append_right (Nat.le_refl _), Nat.sub_self]
      rfl
    · rw [if_neg (fun z => hi (by injection z with z; omega))]
      by_cases hl : i < w.length
      · rw [List.getElem?_append_left hl]
      · rw [List.getElem?_eq_none (by omega), List.getElem?_eq_none (by simp; omega)]
  · unfold putA at hx
    split at hx
    · rw [List.map_map] at hx
      obtain ⟨y, hy, rfl⟩ := List.mem_map.mp hx
      show DI.ply 1 (if y.1 = _ then (y.1, _) else y).2 = true
      split
      · rfl
      · exact h.ply _ (List.mem_map_of_mem hy)
    · rw [List.map_append] at hx
      rcases List.mem_append.mp hx with hx | hx
      · exact h.ply _ hx
      · rw [List.mem_singleton.mp hx]; rfl
theorem DOk.getV {d : List (L2.Key × PV)} {w : List Nat} (h : DOk d w) (i : Nat) : (getA d (.inl (i : Int))).getD .non = optV w[i]? := by
  rw [h.get]
  cases w[i]? <;> rfl
/-- pieces from this one on -/
def runV (a n : Nat) : List PV := natsV (List.range' a n)
theorem runV_snoc (a n : Nat) : runV a n ++ [.int ((a + n : Nat) : Int)] = runV a (n + 1) := by
  unfold runV
  rw [List.range'_concat, nats_app, Nat.one_mul]
  rfl
theorem runV_pop (a n : Nat) : (runV a (n + 1))[0]? = some (.int (a : Int)) ∧ (runV a (n + 1)).eraseIdx 0 = runV (a + 1) n := ⟨rfl, rfl⟩
theorem maxI_zero (l : List Int) : maxI (0 :: l) = maxI (0 :: l.filter fun v => decide (v ≠ 0)) := by
  obtain ⟨h1, h2⟩ := maxI_mem l 0
  obtain ⟨h3, h4⟩ := maxI_mem (l.filter fun v => decide (v ≠ 0)) 0
  show l.foldl _ 0 = (l.filter _).foldl _ 0
  apply Int.le_antisymm
  · refine h4 _ ?_
    rcases List.mem_cons.mp h1 with h | h
    · rw [h]; exact List.mem_cons_self
    · by_cases hz : l.foldl (fun m y => if m < y then y else m) 0 = 0
      · rw [hz]; exact List.mem_cons_self
      · exact List.mem_cons_of_mem _ (List.mem_filter.mpr ⟨h, by simpa using hz⟩)
  · refine h2 _ ?_
    rcases List.mem_cons.mp h3 with h | h
    · rw [h]; exact List.mem_cons_self
    · exact List.mem_cons_of_mem _ (List.mem_filter.mp h).1
theorem maxI_eq {l r : List Int} (h1 : ∀ x ∈ l, x = 0 ∨ x ∈ r) (h2 : ∀ x ∈ r, x = 0 ∨ x ∈ l) : maxI (0 :: l) = maxI (0 :: r) := by
  obtain ⟨a1, a2⟩ := maxI_mem l 0
  obtain ⟨b1, b2⟩ := maxI_mem r 0
  show l.foldl _ 0 = r.foldl _ 0
  apply Int.le_antisymm
  · refine b2 _ ?_
    rcases List.mem_cons.mp a1 with h | h
    · rw [h]; exact List.mem_cons_self
    · rcases h1 _ h with h | h
      · rw [h]; exact List.mem_cons_self
      · exact List.mem_cons_of_mem _ h
  · refine a2 _ ?_
    rcases List.mem_cons.mp b1 with h | h
    · rw [h]; exact List.mem_cons_self
    · rcases h2 _ h with h | h
      · rw [h]; exact List.mem_cons_self
      · exact List.mem_cons_of_mem _ h
/-- went, of these alone -/
def isW (G : List Int) (p : Nat × Nat) : Bool := ((tf G)[p.2]?).isSome
theorem dmx_eq (A G : List Int) : dmx A G = maxI (0 :: ((tf A).zipIdx.filter (isW G)).map (dd G)) := by
  unfold dmx
  refine maxI_eq (fun x hx => ?_) fun x hx => ?_
  · obtain ⟨p, hp, rfl⟩ := List.mem_map.mp hx
    cases hg : (tf G)[p.2]? with
    | none => left; unfold dd; rw [hg]
    | some w => right; exact List.mem_map.mpr ⟨p, List.mem_filter.mpr ⟨hp, by unfold isW; rw [hg]; rfl⟩, rfl⟩
  · obtain ⟨p, hp, rfl⟩ := List.mem_map.mp hx
    exact .inr (List.mem_map.mpr ⟨p, (List.mem_filter.mp hp).1, rfl⟩)
theorem tf_lt {ps : List Int} : ∀ n ∈ tf ps, n < ps.length := fun n hn => by
  unfold tf at hn
  obtain ⟨l, hl, hn⟩ := List.mem_flatten.mp hn
  obtain ⟨p, hp, rfl⟩ := List.mem_map.mp hl
  rw [List.eq_of_mem_replicate hn]
  have := List.mem_zipIdx hp
  omega
end My
set_option maxHeartbeats 4000000
namespace My
open PySem DI
def lw_0 : CS := (.asg (.name 1) (.call 15 (.cons (.var 0) .nil)))
def lw_1b_0 : CS := (.asg (.name 5) (.call 19 (.cons (.var 1) (.cons (.int 3) .nil))))
def lw_1b_1 : CS := (.asg (.tup [(.name 10), (.name 11)]) (.tup (.cons (.call 20 (.cons (.var 1) (.cons (.var 5) (.cons (.int 4) .nil)))) (.cons (.call 16 (.cons (.var 1) (.cons (.int 10) .nil))) .nil))))
def lw_1b_2 : CS := (.asg (.tup [(.name 12), (.name 13)]) (.tup (.cons (.call 22 (.cons (.var 1) (.cons (.var 5) (.cons (.var 11) .nil)))) (.cons (.callB .tuple (.cons (.comp [("turn", 15)] (.name 15) (.rng1 (.var 11)) none (.call 16 (.cons (.var 1) (.cons (.callB .len (.cons (.var 10) .nil)) .nil)))) .nil)) .nil))))
def lw_1b_3 : CS := (.asg (.name 6) (.call 21 (.cons (.var 10) (.cons (.var 12) (.cons (.var 13) .nil)))))
def lw_1b_4b_0 : CS := (.asg (.tup [(.name 18), (.name 19), (.name 20)]) (.tup (.cons (.lstR .nil) (.cons .dctN (.cons (.int 0) .nil)))))
def lw_1b_4b_1 : CS := (.asg (.name 14) (.lstR .nil))
def lw_1b_4b_2b_0b_0 : CS := (.expr (.meth .append (.var 18) (.cons (.var 20) .nil)))
def lw_1b_4b_2b_0b_1 : CS := (.expr (.meth .append (.var 14) (.cons (.var 15) .nil)))
def lw_1b_4b_2b_0b_2 : CS := (.aug 20 .Add (.int 1))
def lw_1b_4b_2b_0b : CSs := (.cons lw_1b_4b_2b_0b_0 (.cons lw_1b_4b_2b_0b_1 (.cons lw_1b_4b_2b_0b_2 .nil)))
def lw_1b_4b_2b_0 : CS := (.forS (.name 21) (.rng1 (.idx (.idx (.var 12) (.var 15)) (.var 7))) lw_1b_4b_2b_0b)
def lw_1b_4b_2b_1b_0 : CS := (.putD (.var 19) (.meth .pop (.var 18) (.cons (.int 0) .nil)) (.var 15))
def lw_1b_4b_2b_1b : CSs := (.cons lw_1b_4b_2b_1b_0 .nil)
def lw_1b_4b_2b_1 : CS := (.forS (.name 21) (.rng1 (.idx (.idx (.idx (.var 6) (.var 15)) (.int 1)) (.var 7))) lw_1b_4b_2b_1b)
def lw_1b_4b_2b : CSs := (.cons lw_1b_4b_2b_0 (.cons lw_1b_4b_2b_1 .nil))
def lw_1b_4b_2 : CS := (.forS (.name 15) (.rng1 (.var 11)) lw_1b_4b_2b)
def lw_1b_4b_3 : CS := (.asg (.name 16) (.callB .tuple (.cons (.comp [("piece", 21), ("came", 22)] (.tup [(.name 21), (.name 22)]) (.enum (.var 14)) none (.tup (.cons (.var 22) (.cons (.getD (.var 19) (.var 21) .non) .nil)))) .nil)))
def lw_1b_4b_4 : CS := (.asg (.name 17) (.callB .max (.cons (.bin .Add (.lst (.cons (.int 0) .nil)) (.comp [("came", 22), ("its", 23)] (.tup [(.name 22), (.name 23)]) (.seq (.var 16)) (some (.cmp .IsNot (.var 23) .non)) (.bin .Add (.bin .Sub (.var 23) (.var 22)) (.int 1)))) .nil)))
def lw_1b_4b_5t_0 : CS := (.ret (.bl false))
def lw_1b_4b_5t : CSs := (.cons lw_1b_4b_5t_0 .nil)
def lw_1b_4b_5 : CS := (.ite (.notE (.call 18 (.cons (.lst (.cons (.call 12 (.cons (.var 10) (.cons (.var 12) (.cons (.var 13) (.cons (.var 7) .nil))))) (.cons (.call 13 (.cons (.var 10) (.cons (.var 12) (.cons (.var 13) (.cons (.var 7) .nil))))) .nil))) (.cons (.lst (.cons (.var 16) (.cons (.var 17) .nil))) .nil)))) lw_1b_4b_5t .nil)
def lw_1b_4b : CSs := (.cons lw_1b_4b_0 (.cons lw_1b_4b_1 (.cons lw_1b_4b_2 (.cons lw_1b_4b_3 (.cons lw_1b_4b_4 (.cons lw_1b_4b_5 .nil))))))
def lw_1b_4 : CS := (.forS (.name 7) (.rng1 (.callB .len (.cons (.var 5) .nil))) lw_1b_4b)
def lw_1b_5 : CS := (.asg (.name 8) (.callB .tuple (.cons (.comp [("turn", 15)] (.name 15) (.rng1 (.bin .Add (.int 1) (.call 16 (.cons (.var 1) (.cons (.int 4) .nil))))) none (.call 16 (.cons (.var 1) (.cons (.int 5) .nil)))) .nil)))
def lw_1b_6t_0 : CS := (.ret (.bl false))
def lw_1b_6t : CSs := (.cons lw_1b_6t_0 .nil)
def lw_1b_6 : CS := (.ite (.notE (.call 18 (.cons (.call 14 (.cons (.var 8) (.cons (.var 11) .nil))) (.cons (.callB .tuple (.cons (.comp [("turn", 15)] (.name 15) (.rng1 (.var 11)) none (.idx (.var 8) (.bin .Mod (.var 15) (.callB .len (.cons (.var 8) .nil))))) .nil)) .nil)))) lw_1b_6t .nil)
def lw_1b_7 : CS := (.asg (.name 9) (.call 17 (.cons (.var 1) (.cons (.lst (.cons (.callB .len (.cons (.var 5) .nil)) (.cons (.neg (.int 1)) (.cons (.bl true) (.cons .non .nil))))) .nil))))
def lw_1b_8 : CS := (.asg (.name 4) (.lstR (.cons (.heard 23 (.call 12 (.cons (.var 10) (.cons (.var 12) (.cons (.var 13) (.cons (.var 9) .nil)))))) .nil)))
def lw_1b_9 : CS := (.expr (.meth .append (.var 4) (.cons (.heard 23 (.call 13 (.cons (.var 10) (.cons (.var 12) (.cons (.var 13) (.cons (.var 9) .nil)))))) .nil)))
def lw_1b_10 : CS := (.expr (.meth .append (.var 4) (.cons (.heard 23 (.call 12 (.cons (.var 10) (.cons (.var 12) (.cons (.bin .Add (.var 13) (.tup (.cons (.int 0) .nil))) (.cons (.int 0) .nil)))))) .nil)))
def lw_1b_11 : CS := (.expr (.meth .append (.var 4) (.cons (.heard 23 (.call 14 (.cons (.call 17 (.cons (.var 1) (.cons (.lst (.cons (.tup .nil) (.cons .non (.cons (.lst (.cons (.int 0) .nil)) (.cons (.tup (.cons (.neg (.int 1)) .nil)) (.cons (.tup (.cons (.bl true) .nil)) .nil)))))) .nil))) (.cons (.int 3) .nil)))) .nil)))
def lw_1b_12 : CS := (.expr (.meth .append (.var 4) (.cons (.heard 23 (.call 14 (.cons (.var 8) (.cons (.call 17 (.cons (.var 1) (.cons (.lst (.cons (.neg (.int 1)) (.cons (.int 5001) (.cons .non (.cons (.bl true) .nil))))) .nil))) .nil)))) .nil)))
def lw_1b_13t_0 : CS := (.ret (.bl false))
def lw_1b_13t : CSs := (.cons lw_1b_13t_0 .nil)
def lw_1b_13 : CS := (.ite (.cmp .NotEq (.var 4) (.bin .Mult (.lst (.cons (.tup (.cons (.str "nothing") .nil)) .nil)) (.int 5))) lw_1b_13t .nil)
def lw_1b : CSs := (.cons lw_1b_0 (.cons lw_1b_1 (.cons lw_1b_2 (.cons lw_1b_3 (.cons lw_1b_4 (.cons lw_1b_5 (.cons lw_1b_6 (.cons lw_1b_7 (.cons lw_1b_8 (.cons lw_1b_9 (.cons lw_1b_10 (.cons lw_1b_11 (.cons lw_1b_12 (.cons lw_1b_13 .nil))))))))))))))
def lw_1 : CS := (.forS (.name 2) (.rng1 (.int 5)) lw_1b)
def lw_2 : CS := (.asg (.name 3) (.tup (.cons (.tup (.cons (.int 1) .nil)) .nil)))
def lw_3 : CS := (.asg (.name 4) (.lstR (.cons (.heard 23 (.call 13 (.cons (.var 3) (.cons (.tup (.cons (.tup (.cons (.int 20001) .nil)) .nil)) (.cons (.tup (.cons (.int 0) .nil)) (.cons (.int 0) .nil)))))) .nil)))
def lw_4 : CS := (.expr (.meth .append (.var 4) (.cons (.heard 23 (.call 13 (.cons (.var 3) (.cons (.tup (.cons (.tup (.cons (.int 20000) .nil)) .nil)) (.cons (.tup (.cons (.int 0) .nil)) (.cons (.int 0) .nil)))))) .nil)))
def lw_5 : CS := (.ret (.cmp .Eq (.var 4) (.lst (.cons (.tup (.cons (.str "too large") (.cons (.str "pieces") (.cons (.int 20000) .nil)))) (.cons (.tup (.cons (.str "told") (.cons (.int 1) .nil))) .nil)))))
def lw : CSs := (.cons lw_0 (.cons lw_1 (.cons lw_2 (.cons lw_3 (.cons lw_4 (.cons lw_5 .nil))))))

/-- the line, what went, the rows -/
def LS3 (a : List PV) (d : List (L2.Key × PV)) (b : List PV) : Store := [some (.lst a), some (.dct d), some (.lst b)]
section
variable {M : Store} {q : PV} {a b : List PV} {d : List (L2.Key × PV)} {k : PV → Store → Prop}
theorem t3_0 : tyM (M ++ LS3 a d b) (.ref M.length) = true := mAppend (lstAt_at (i := 0) rfl)
theorem t3_2 : tyM (M ++ LS3 a d b) (.ref (M.length + 2)) = true := mAppend (lstAt_at (i := 2) rfl)
theorem l3_0 (hz : a.length < sizeLine) (h : k .non (M ++ LS3 (a ++ [q]) d b)) : BMX .append (M ++ LS3 a d b) (.ref M.length) [q] k :=
  BMX.app (lstAt_at (i := 0) rfl) hz (by rw [show M.length = M.length + 0 from rfl, set_app]; exact h)
theorem l3_2 (hz : b.length < sizeLine) (h : k .non (M ++ LS3 a d (b ++ [q]))) : BMX .append (M ++ LS3 a d b) (.ref (M.length + 2)) [q] k :=
  BMX.app (lstAt_at (i := 2) rfl) hz (by rw [set_app]; exact h)
theorem l3_pop {g n : Nat} (h : k (.int (g : Int)) (M ++ LS3 (runV (g + 1) n) d b)) : BMX .pop (M ++ LS3 (runV g (n + 1)) d b) (.ref M.length) [.int 0] k :=
  BMX.popAt (m := 0) (lstAt_at (i := 0) rfl) (runV_pop g n).1 (by rw [show M.length = M.length + 0 from rfl, set_app]; exact h)
theorem l3_put {i : Nat} {v : PV} {kk : Store → Prop} (hz : d.length < sizeLine) (h : kk (M ++ LS3 a (putA d (.inl (i : Int)) v) b)) : PUTD (M ++ LS3 a d b) (.ref (M.length + 1)) (.int (i : Int)) v kk :=
  PUTD.at (i := 1) rfl rfl hz h
theorem l3_get {w : List Nat} (h : DOk d w) (i : Nat) : OEQ ((getDP (M ++ LS3 a d b) (.ref (M.length + 1)) (.int (i : Int))).map fun r => r.getD .non) (optV w[i]?) := ⟨by
  rw [getDP_at' (i := 1) (k := .inl (i : Int)) rfl rfl]
  exact congrArg some (h.getV i)⟩
theorem l3_is : isDP (M ++ LS3 a d b) (.ref (M.length + 1)) = true := isDP_at (i := 1) rfl
theorem l3_gd : gdOk (M ++ LS3 a d b) [(M.length + 2, b)] := fun p hp => by
  simp only [List.mem_singleton] at hp
  subst hp
  exact lstAt_at (i := 2) rfl
theorem l3_O0 {w : List Nat} (h : DOk d w) : O0 (some (.dct d)) := fun m => by
  show okRefs m (d.map (·.2)) = true
  exact plys_okRefs _ 1 m (plys_all h.ply)
end
theorem tf_step {ps : List Int} {t : Nat} {x : Int} (h : ps[t]? = some x) : tf (ps.take (t + 1)) = tf (ps.take t) ++ List.replicate x.toNat t := by
  have hj := (List.getElem?_eq_some_iff.mp h).1
  rw [List.take_succ, h]
  show tf (ps.take t ++ [x]) = _
  rw [tf_snoc, List.length_take, Nat.min_eq_left (by omega)]
/-- what the law holds of its row, its dict, its rows -/
def ST (M : Store) (r w : List Nat) (M' : Store) : Prop := ∃ d, M' = M ++ LS3 (runV w.length (r.length - w.length)) d (natsV r) ∧ DOk d w ∧ w.length ≤ r.length
section
variable {sv cs : List (List Int)} {f : List Nat} {j : Nat}
/-- one turn's pieces come -/
theorem comeW (k : Nat) (sc : PV) (ss : List PV) (q2 q3 q4 q8 q9 q16 q17 q21 q22 q23 : Option PV) {M M1 : Store} {r w : List Nat} {t n : Nat} (hr : r.length + n ≤ 1000) (hs : ST M r w M1)
    {nx : Sl → Store → Prop} {rt : PV → Store → Prop} {lp lb : Sl → Store → Prop} {X : Exc → Sl → Store → Prop}
    (hk : ∀ (q21 : Option PV) (M' : Store), ST M (r ++ List.replicate n t) w M' → nx [some sc, some (.ref 0), q2, q3, q4, some (.tup ss), some (.lst ((tsF ss.length sv cs f).map trV)), some (.int (j : Int)), q8, q9, some (rowsV sv), some (.int (cs.length : Int)), some (rowsV cs), some (frV f), some (.ref (M.length + 2)), some (.int (t : Int)), q16, q17, some (.ref M.length), some (.ref (M.length + 1)), some (.int (((r ++ List.replicate n t).length : Nat) : Int)), q21, q22, q23] M') :
    FOR T (Fn T (codesOf ents) (k + 20)) [] (.name 21) lw_1b_4b_2b_0b ((List.range n).map fun m : Nat => .int (m : Int)) [some sc, some (.ref 0), q2, q3, q4, some (.tup ss), some (.lst ((tsF ss.length sv cs f).map trV)), some (.int (j : Int)), q8, q9, some (rowsV sv), some (.int (cs.length : Int)), some (rowsV cs), some (frV f), some (.ref (M.length + 2)), some (.int (t : Int)), q16, q17, some (.ref M.length), some (.ref (M.length + 1)), some (.int (r.length : Int)), q21, q22, q23] M1 nx rt lp lb X := by
  have hz : 10000000 ≤ sizeLine := by decide
  refine FOR.inv (fun m : Nat => PV.int (m : Int)) (fun i sp M' => ∃ (q21 : Option PV) (c : Int), sp = [some sc, some (.ref 0), q2, q3, q4, some (.tup ss), some (.lst ((tsF ss.length sv cs f).map trV)), some (.int (j : Int)), q8, q9, some (rowsV sv), some (.int (cs.length : Int)), some (rowsV cs), some (frV f), some (.ref (M.length + 2)), some (.int (t : Int)), q16, q17, some (.ref M.length), some (.ref (M.length + 1)), some (.int c), q21, q22, q23] ∧ c = ((r ++ List.replicate i t).length : Nat) ∧ ST M (r ++ List.replicate i t) w M') ⟨_, _, rfl, by simp, by simpa using hs⟩ (fun i x sp M' hi hI => ?_) fun sp M' hI => ?_
  · obtain ⟨q21, c, rfl, hc, d, rfl, hd, hwl⟩ := hI
    obtain ⟨rfl, hin⟩ := rng_get hi
    have e := runV_snoc w.length ((r ++ List.replicate x t).length - w.length)
    rw [show w.length + ((r ++ List.replicate x t).length - w.length) = (r ++ List.replicate x t).length by omega, ← hc] at e
    have hl : (r ++ List.replicate x t).length ≤ 1000 := by simp; omega
    (repeat (first | refine WE.meth ?_ | refine And.intro t3_0 ?_ | refine And.intro t3_2 ?_ | refine l3_0 (by simp only [runV, natsV, List.length_map, List.length_range']; omega) ?_ | refine l3_2 (by simp only [natsV, List.length_map]; omega) ?_ | sizeOf_list_dec))
    rw [e]
    refine ⟨_, _, rfl, ?_, d, ?_, hd, ?_⟩
    · rw [hc]; simp; omega
    · rw [List.replicate_succ', ← List.append_assoc, nats_app (r ++ List.replicate x t)]
      rw [show (r ++ List.replicate x t ++ [t]).length - w.length = (r ++ List.replicate x t).length - w.length + 1 by rw [List.length_append, List.length_singleton]; omega]
      rfl
    · rw [List.replicate_succ', ← List.append_assoc, List.length_append]; omega
  · obtain ⟨q21, c, rfl, hc, hst⟩ := hI
    rw [List.length_range] at hc hst
    subst hc
    exact hk _ _ hst
/-- one turn's pieces go -/
theorem goW (k : Nat) (sc : PV) (ss : List PV) (q2 q3 q4 q8 q9 q16 q17 q20 q21 q22 q23 : Option PV) {M M1 : Store} {r w : List Nat} {t n : Nat} (hr : w.length + n ≤ r.length) (hr2 : r.length ≤ 1000) (hs : ST M r w M1)
    {nx : Sl → Store → Prop} {rt : PV → Store → Prop} {lp lb : Sl → Store → Prop} {X : Exc → Sl → Store → Prop}
    (hk : ∀ (q21 : Option PV) (M' : Store), ST M r (w ++ List.replicate n t) M' → nx [some sc, some (.ref 0), q2, q3, q4, some (.tup ss), some (.lst ((tsF ss.length sv cs f).map trV)), some (.int (j : Int)), q8, q9, some (rowsV sv), some (.int (cs.length : Int)), some (rowsV cs), some (frV f), some (.ref (M.length + 2)), some (.int (t : Int)), q16, q17, some (.ref M.length), some (.ref (M.length + 1)), q20, q21, q22, q23] M') :
    FOR T (Fn T (codesOf ents) (k + 20)) [] (.name 21) lw_1b_4b_2b_1b ((List.range n).map fun m : Nat => .int (m : Int)) [some sc, some (.ref 0), q2, q3, q4, some (.tup ss), some (.lst ((tsF ss.length sv cs f).map trV)), some (.int (j : Int)), q8, q9, some (rowsV sv), some (.int (cs.length : Int)), some (rowsV cs), some (frV f), some (.ref (M.length + 2)), some (.int (t : Int)), q16, q17, some (.ref M.length), some (.ref (M.length + 1)), q20, q21, q22, q23] M1 nx rt lp lb X := by
  have hz : 10000000 ≤ sizeLine := by decide
  refine FOR.inv (fun m : Nat => PV.int (m : Int)) (fun i sp M' => ∃ (q21 : Option PV), sp = [some sc, some (.ref 0), q2, q3, q4, some (.tup ss), some (.lst ((tsF ss.length sv cs f).map trV)), some (.int (j : Int)), q8, q9, some (rowsV sv), some (.int (cs.length : Int)), some (rowsV cs), some (frV f), some (.ref (M.length + 2)), some (.int (t : Int)), q16, q17, some (.ref M.length), some (.ref (M.length + 1)), q20, q21, q22, q23] ∧ ST M r (w ++ List.replicate i t) M') ⟨_, rfl, by simpa using hs⟩ (fun i x sp M' hi hI => ?_) fun sp M' hI => ?_
  · obtain ⟨q21, rfl, d, rfl, hd, hwl⟩ := hI
    obtain ⟨rfl, hin⟩ := rng_get hi
    have hl : (w ++ List.replicate x t).length = w.length + x := by simp
    obtain ⟨N, hN⟩ : ∃ N, r.length - (w ++ List.replicate x t).length = N + 1 := ⟨r.length - (w ++ List.replicate x t).length - 1, by omega⟩
    rw [hN]
    have hdl := hd.len
    (repeat (first | refine W1.putD ?_ | refine WE.meth ?_ | refine And.intro t3_0 ?_ | refine l3_pop ?_ | refine l3_put (by omega) ?_ | sizeOf_list_dec))
    refine ⟨_, rfl, putA d (.inl ((w ++ List.replicate x t).length : Int)) (.int (t : Int)), ?_, ?_, ?_⟩
    · rw [List.replicate_succ', ← List.append_assoc]
      rw [show (w ++ List.replicate x t ++ [t]).length = (w ++ List.replicate x t).length + 1 by rw [List.length_append, List.length_singleton], show r.length - ((w ++ List.replicate x t).length + 1) = N by omega]
    · rw [List.replicate_succ', ← List.append_assoc]
      exact hd.put t
    · rw [List.replicate_succ', ← List.append_assoc, List.length_append, List.length_singleton]; omega
  · obtain ⟨q21, rfl, hst⟩ := hI
    rw [List.length_range] at hst
    exact hk _ _ hst
end
end My
set_option maxHeartbeats 4000000
namespace My
open PySem DI
section
variable {sv cs : List (List Int)} {f : List Nat} {j : Nat}
/-- the turns of one stream -/
theorem strK (k : Nat) (tl : CSs) (sc : PV) (ss : List PV) (q2 q3 q4 q8 q9 q15 q16 q17 q21 q22 q23 : Option PV) {M M1 : Store} (hx : Cx ss.length sv cs f) (hj : j < ss.length) (hs : (col cs j).sum ≤ 1000) (hst : ST M [] [] M1)
    {nx : Sl → Store → Prop} {rt : PV → Store → Prop} {lp lb : Sl → Store → Prop} {X : Exc → Sl → Store → Prop}
    (hk : ∀ (q15 q20 q21 : Option PV) (M' : Store), ST M (tf (col cs j)) (tf (gcol (tsF ss.length sv cs f) j)) M' → WS T (Fn T (codesOf ents) (k + 20)) tl [some sc, some (.ref 0), q2, q3, q4, some (.tup ss), some (.lst ((tsF ss.length sv cs f).map trV)), some (.int (j : Int)), q8, q9, some (rowsV sv), some (.int (cs.length : Int)), some (rowsV cs), some (frV f), some (.ref (M.length + 2)), q15, q16, q17, some (.ref M.length), some (.ref (M.length + 1)), q20, q21, q22, q23] M' nx rt lp lb X) :
    WS T (Fn T (codesOf ents) (k + 20)) (.cons lw_1b_4b_2 tl) [some sc, some (.ref 0), q2, q3, q4, some (.tup ss), some (.lst ((tsF ss.length sv cs f).map trV)), some (.int (j : Int)), q8, q9, some (rowsV sv), some (.int (cs.length : Int)), some (rowsV cs), some (frV f), some (.ref (M.length + 2)), q15, q16, q17, some (.ref M.length), some (.ref (M.length + 1)), some (.int 0), q21, q22, q23] M1 nx rt lp lb X := by
  have hf := hx.few
  have hA := col_nn (j := j) hx
  have hG := gcol_nn (j := j) hx
  have hcl : (col cs j).length = cs.length := by simp [col]
  have htl := hx.tl
  have hgl : (gcol (tsF ss.length sv cs f) j).length = cs.length := by simp [gcol, htl]
  (repeat (first | sizeOf_list_dec))
  refine FOR.inv (fun m : Nat => PV.int (m : Int)) (fun t sp M' => ∃ (q15 q21 : Option PV), sp = [some sc, some (.ref 0), q2, q3, q4, some (.tup ss), some (.lst ((tsF ss.length sv cs f).map trV)), some (.int (j : Int)), q8, q9, some (rowsV sv), some (.int (cs.length : Int)), some (rowsV cs), some (frV f), some (.ref (M.length + 2)), q15, q16, q17, some (.ref M.length), some (.ref (M.length + 1)), some (.int ((tf ((col cs j).take t)).length : Int)), q21, q22, q23] ∧ ST M (tf ((col cs j).take t)) (tf ((gcol (tsF ss.length sv cs f) j).take t)) M') ⟨_, _, rfl, hst⟩ (fun t0 t sp M' ht hI => ?_) fun sp M' hI => ?_
  · obtain ⟨q15, q21, rfl, hst⟩ := hI
    obtain ⟨rfl, htn⟩ := rng_get ht
    have hcg : cs[t]? = some (cs[t]'htn) := List.getElem?_eq_getElem htn
    have htg : (tsF ss.length sv cs f)[t]? = some ((tsF ss.length sv cs f)[t]'(by omega)) := List.getElem?_eq_getElem (by omega)
    have hA2 := hx.hc _ (List.getElem_mem htn)
    have htr := hx.tr _ (List.getElem_mem (l := tsF ss.length sv cs f) (n := t) (by omega))
    generalize cs[t]'htn = r at hcg hA2
    generalize (tsF ss.length sv cs f)[t]'(by omega) = tr at htg htr
    have a1 : (col cs j)[t]? = some (r.getD j 0) := by unfold col; rw [List.getElem?_map, hcg]; rfl
    have g1 : (gcol (tsF ss.length sv cs f) j)[t]? = some (tr.g.getD j 0) := by unfold gcol; rw [List.getElem?_map, htg]; rfl
    obtain ⟨n1, hn1⟩ : ∃ n : Nat, r.getD j 0 = (n : Int) := ⟨(r.getD j 0).toNat, by have := hA _ (List.mem_of_getElem? a1); omega⟩
    obtain ⟨n2, hn2⟩ : ∃ n : Nat, tr.g.getD j 0 = (n : Int) := ⟨(tr.g.getD j 0).toNat, by have := hG _ (List.mem_of_getElem? g1); omega⟩
    have s1 := tf_step a1
    have s2 := tf_step g1
    rw [hn1, Int.toNat_natCast] at s1
    rw [hn2, Int.toNat_natCast] at s2
    have le1 := tf_len (ps := (col cs j).take (t + 1)) fun v hv => hA v (List.mem_of_mem_take hv)
    have le2 := tf_len (ps := (gcol (tsF ss.length sv cs f) j).take (t + 1)) fun v hv => hG v (List.mem_of_mem_take hv)
    have le3 := gsum_le hx hj (t + 1)
    have le4 := (take_sum hA (t + 1)).2
    have le5 : (tf ((col cs j).take t)).length + n1 ≤ 1000 := by
      have := congrArg List.length s1
      rw [List.length_append, List.length_replicate] at this
      omega
    have le6 : (tf ((gcol (tsF ss.length sv cs f) j).take t)).length + n2 ≤ (tf ((col cs j).take t) ++ List.replicate n1 t).length := by
      have h2 := congrArg List.length s2
      rw [List.length_append, List.length_replicate] at h2
      rw [← s1]
      omega
    have le7 : (tf ((col cs j).take t) ++ List.replicate n1 t).length ≤ 1000 := by rw [List.length_append, List.length_replicate]; omega
    have e1 : ∀ M, OEQ (idxP M (rowsV cs) (.int (t : Int))) (tupI r) := fun M => ⟨idx_getT' (by rw [List.getElem?_map, hcg]; rfl)⟩
    have e2 : ∀ M, OEQ (idxP M (tupI r) (.int (j : Int))) (.int (n1 : Int)) := fun M => ⟨by rw [← hn1]; exact idx_getT' (getI _ (Nat.le_refl _) (by rw [hA2.1]; exact hj))⟩
    have e3 : ∀ M, OEQ (idxP M (.lst ((tsF ss.length sv cs f).map trV)) (.int (t : Int))) (trV tr) := fun M => ⟨idx_getL' (by rw [List.getElem?_map, htg]; rfl)⟩
    have e4 : ∀ M, OEQ (idxP M (tupI tr.g) (.int (j : Int))) (.int (n2 : Int)) := fun M => ⟨by rw [← hn2]; exact idx_getT' (getI _ (Nat.le_refl _) (by rw [htr.2.1]; exact hj))⟩
    (repeat (first | refine OP.ofE (e1 _) ?_ | refine OP.ofE (e2 _) ?_ | sizeOf_list_dec))
    refine comeW k sc ss _ _ _ _ _ _ _ _ _ _ le5 hst fun q21 M2 hs2 => ?_
    (repeat (first | refine OP.ofE (e3 _) ?_ | refine OP.ofE (e4 _) ?_ | sizeOf_list_dec))
    refine goW k sc ss _ _ _ _ _ _ _ _ _ _ _ le6 le7 hs2 fun q21 M3 hs3 => ?_
    rw [← s1, ← s2] at hs3
    (repeat (first | sizeOf_list_dec))
    exact ⟨_, _, by rw [s1], hs3⟩
  · obtain ⟨q15, q21, rfl, hst⟩ := hI
    rw [List.length_range] at hst
    rw [List.take_of_length_le (by omega), List.take_of_length_le (by omega)] at hst
    exact hk _ _ _ _ hst
end
end My
set_option maxHeartbeats 4000000
namespace My
open PySem DI
theorem rsz_i {i : Int} (h : -1000 ≤ i ∧ i ≤ 1000) : Rsz (.int i) 21 := Rsz.int (by
  have : i.natAbs ≤ 1000 := by omega
  exact Nat.lt_of_le_of_lt this (by decide))
theorem rsz_dp {A G : List Int} (hA : A.length ≤ 9) (hG : G.length ≤ 9) {p : Nat × Nat} (hp : p ∈ (tf A).zipIdx) : Rsz (dpV G p) 49 := Rsz.tup (c := 21) fun x hx => by
  have h1 := tf_lt p.1 (List.fst_mem_of_mem_zipIdx hp)
  simp only [List.mem_cons, List.not_mem_nil, or_false] at hx
  rcases hx with rfl | rfl
  · exact rsz_i (by omega)
  · cases hg : (tf G)[p.2]? with
    | none => exact Rsz.non.mono (by omega)
    | some w =>
      have h2 := tf_lt w (List.mem_of_getElem? hg)
      exact rsz_i (by omega)
theorem ply_dl (A G : List Int) (n : Nat) : ply (n + 3) (dlV A G) = true := ply_tup fun x hx => by
  obtain ⟨p, _, rfl⟩ := List.mem_map.mp hx
  refine ply_tup fun y hy => ?_
  simp only [List.mem_cons, List.not_mem_nil, or_false] at hy
  rcases hy with rfl | rfl
  · rfl
  · cases (tf G)[p.2]? <;> rfl
theorem dmx_b {A G : List Int} (hA : A.length ≤ 9) (hG : G.length ≤ 9) : 0 ≤ dmx A G ∧ dmx A G ≤ 1000 := by
  obtain ⟨h1, h2⟩ := maxI_mem ((tf A).zipIdx.map (dd G)) 0
  refine ⟨h2 0 List.mem_cons_self, ?_⟩
  rcases List.mem_cons.mp h1 with h | h
  · show ((tf A).zipIdx.map (dd G)).foldl _ 0 ≤ 1000
    rw [h]; omega
  · obtain ⟨p, hp, he⟩ := List.mem_map.mp h
    show ((tf A).zipIdx.map (dd G)).foldl _ 0 ≤ 1000
    rw [← he]
    unfold dd
    cases hg : (tf G)[p.2]? with
    | none => simp
    | some w =>
      have := tf_lt w (List.mem_of_getElem? hg)
      simp only
      omega
theorem al_dl (k : Nat) {A G : List Int} (hA : A.length ≤ 9) (hG : G.length ≤ 9) (hn : (tf A).length ≤ 900) (M : Store) : FEQ (Fn T (codesOf ents) (k + 1)) 18 [.lst [dlV A G, .int (dmx A G)], .lst [dlV A G, .int (dmx A G)]] M (.bl true) M := by
  refine f_alikeP k _ 99999 ((Rsz.lst (c := 49990) fun x hx => ?_).mono (by simp)) (by omega) (ply_lst (n := 59) fun x hx => ?_) M
  · simp only [List.mem_cons, List.not_mem_nil, or_false] at hx
    rcases hx with rfl | rfl
    · refine (Rsz.tup (c := 49) fun x hx => ?_).mono (by rw [List.length_map, List.length_zipIdx]; omega)
      obtain ⟨p, hp, rfl⟩ := List.mem_map.mp hx
      exact rsz_dp hA hG hp
    · have := dmx_b hA hG
      exact (rsz_i (by omega)).mono (by omega)
  · simp only [List.mem_cons, List.not_mem_nil, or_false] at hx
    rcases hx with rfl | rfl
    · exact ply_dl A G 56
    · rfl
section
variable {sv cs : List (List Int)} {f : List Nat} {j : Nat}
theorem col_small {m : Nat} (h : CmOk m cs) : (col cs j).length ≤ 9 ∧ (col cs j).sum ≤ 900 := by
  have key : ∀ l : List Int, (∀ v ∈ l, v ≤ 4) → l.sum ≤ 4 * (l.length : Int) := fun l => by
    induction l with
    | nil => intro _; simp
    | cons x l ih =>
      intro hl
      have h1 := ih fun v hv => hl v (by simp [hv])
      have h2 := hl x (by simp)
      rw [List.sum_cons, List.length_cons]
      push_cast
      omega
  have hl : (col cs j).length = cs.length := by simp [col]
  have hf := h.few
  have := key (col cs j) fun v hv => by
    obtain ⟨r, hr, rfl⟩ := List.mem_map.mp hv
    rw [List.getD_eq_getElem?_getD]
    cases hg : r[j]? with
    | none => simp
    | some v => exact (h.nn r hr v (List.mem_of_getElem? hg)).2
  omega
theorem preK (k : Nat) (tl : CSs) (sc : PV) (ss : List PV) (q2 q3 q4 q8 q9 q14 q15 q16 q17 q18 q19 q20 q21 q22 q23 : Option PV) {M : Store}
    {nx : Sl → Store → Prop} {rt : PV → Store → Prop} {lp lb : Sl → Store → Prop} {X : Exc → Sl → Store → Prop}
    (hk : WS T (Fn T (codesOf ents) (k + 20)) tl [some sc, some (.ref 0), q2, q3, q4, some (.tup ss), some (.lst ((tsF ss.length sv cs f).map trV)), some (.int (j : Int)), q8, q9, some (rowsV sv), some (.int (cs.length : Int)), some (rowsV cs), some (frV f), some (.ref (M.length + 2)), q15, q16, q17, some (.ref M.length), some (.ref (M.length + 1)), some (.int 0), q21, q22, q23] (M ++ LS3 [] [] []) nx rt lp lb X) :
    WS T (Fn T (codesOf ents) (k + 20)) (.cons lw_1b_4b_0 (.cons lw_1b_4b_1 tl)) [some sc, some (.ref 0), q2, q3, q4, some (.tup ss), some (.lst ((tsF ss.length sv cs f).map trV)), some (.int (j : Int)), q8, q9, some (rowsV sv), some (.int (cs.length : Int)), some (rowsV cs), some (frV f), q14, q15, q16, q17, q18, q19, q20, q21, q22, q23] M nx rt lp lb X := by
  (repeat (first | refine WE.dctN ?_ | sizeOf_list_dec))
  have h1 : (M ++ [some (SObj.lst [])] ++ [some (SObj.dct [])]).length = M.length + 2 := by simp
  have h2 : (M ++ [some (SObj.lst [])]).length = M.length + 1 := by simp
  rw [h1, h2, List.append_assoc, List.append_assoc]
  exact hk
/-- one stream -/
theorem lapK (k : Nat) (sc : PV) (ss : List PV) (q2 q3 q4 q8 q9 q14 q15 q16 q17 q18 q19 q20 q21 q22 q23 : Option PV) {M : Store} (hx : Cx ss.length sv cs f) (hc : CmOk ss.length cs) (hj : j < ss.length) (hM : OS M)
    {nx : Sl → Store → Prop} {rt : PV → Store → Prop} {lp lb : Sl → Store → Prop} {X : Exc → Sl → Store → Prop}
    (hk : ∀ (q14 q15 q16 q17 q18 q19 q20 q21 q22 q23 : Option PV) (o1 o2 o3 : Option SObj), O0 o1 → O0 o2 → O0 o3 → nx [some sc, some (.ref 0), q2, q3, q4, some (.tup ss), some (.lst ((tsF ss.length sv cs f).map trV)), some (.int (j : Int)), q8, q9, some (rowsV sv), some (.int (cs.length : Int)), some (rowsV cs), some (frV f), q14, q15, q16, q17, q18, q19, q20, q21, q22, q23] (M ++ [o1, o2, o3])) :
    WS T (Fn T (codesOf ents) (k + 20)) lw_1b_4b [some sc, some (.ref 0), q2, q3, q4, some (.tup ss), some (.lst ((tsF ss.length sv cs f).map trV)), some (.int (j : Int)), q8, q9, some (rowsV sv), some (.int (cs.length : Int)), some (rowsV cs), some (frV f), q14, q15, q16, q17, q18, q19, q20, q21, q22, q23] M nx rt lp lb X := by
  obtain ⟨hA9, hAs⟩ := col_small (j := j) hc
  have hA := col_nn (j := j) hx
  have hG := gcol_nn (j := j) hx
  have hlA := tf_len hA
  have hG9 : (gcol (tsF ss.length sv cs f) j).length ≤ 9 := by
    have h1 : (gcol (tsF ss.length sv cs f) j).length = (col cs j).length := by simp [gcol, col, hx.tl]
    omega
  refine preK k (.cons lw_1b_4b_2 (.cons lw_1b_4b_3 (.cons lw_1b_4b_4 (.cons lw_1b_4b_5 .nil)))) sc ss _ _ _ _ _ _ _ _ _ _ _ _ _ _ _ ?_
  refine strK k _ sc ss _ _ _ _ _ _ _ _ _ _ _ hx hj (by omega) ⟨[], by simp [runV, natsV], DOk.nil, Nat.le_refl _⟩ fun q15 q20 q21 M1 hst => ?_
  obtain ⟨d, rfl, hd, hwl⟩ := hst
  have hO1 : O0 (some (.lst (runV (tf (gcol (tsF ss.length sv cs f) j)).length ((tf (col cs j)).length - (tf (gcol (tsF ss.length sv cs f) j)).length)))) := O0.lst (n := 1) fun x hx => by
    obtain ⟨i, _, rfl⟩ := List.mem_map.mp hx
    rfl
  have hO2 := l3_O0 hd
  have hO3 : O0 (some (.lst (natsV (tf (col cs j))))) := O0.lst (n := 1) fun x hx => by
    obtain ⟨i, _, rfl⟩ := List.mem_map.mp hx
    rfl
  have hOM : OS (M ++ LS3 (runV (tf (gcol (tsF ss.length sv cs f) j)).length ((tf (col cs j)).length - (tf (gcol (tsF ss.length sv cs f) j)).length)) d (natsV (tf (col cs j)))) := by
    have := ((hM.app hO1).app hO2).app hO3
    rw [List.append_assoc, List.append_assoc] at this
    exact this
  have e1 := fe (p_delays (k + 9) hx hj (by omega) hOM.ok)
  have e2 := fe (p_greatest (k + 8) hx hj (by omega) hOM)
  have e3 := al_dl (k + 19) hA9 hG9 (by omega) (M ++ LS3 (runV (tf (gcol (tsF ss.length sv cs f) j)).length ((tf (col cs j)).length - (tf (gcol (tsF ss.length sv cs f) j)).length)) d (natsV (tf (col cs j))))
  have hm := dmx_eq (col cs j) (gcol (tsF ss.length sv cs f) j)
  have hfin := fun q16 q17 q22 q23 => hk (some (.ref (M.length + 2))) q15 q16 q17 (some (.ref M.length)) (some (.ref (M.length + 1))) q20 q21 q22 q23 _ _ _ hO1 hO2 hO3
  generalize gcol (tsF ss.length sv cs f) j = G at *
  generalize col cs j = A at *
  (repeat (first | refine ITS.re (lstAt_at (i := 2) rfl) ?_ | sizeOf_list_dec))
  have en : enumL (natsV (tf A)) = (tf A).zipIdx.map fun p => PV.tup [.int (p.2 : Int), .int (p.1 : Int)] := enumLA _ _
  rw [en]
  refine CMP.map (items := (tf A).zipIdx) (dpV G) _ l3_gd (fun p hp => ?_) ?_
  · have e4 := fun M a b => @l3_get M a b d (tf G) hd p.2
    (repeat (first | refine WE.getD ?_ | refine And.intro l3_is ?_ | refine OP.ofE (e4 _ _ _) ?_ | sizeOf_list_dec))
  (repeat (first | sizeOf_list_dec))
  refine CMP.fil (items := (tf A).zipIdx) (isW G) (fun p => .int (dd G p)) (dpV G) (gd0 _) (fun p hp => ?_) ?_
  · cases hg : (tf G)[p.2]? with
    | none =>
      have hd2 : isW G p = false := by unfold isW; rw [hg]; rfl
      have hp2 : dpV G p = .tup [.int (p.1 : Int), .non] := by unfold dpV; rw [hg]; rfl
      rw [hp2, hd2]
      (repeat (first | sizeOf_list_dec))
      exact ⟨rfl, rfl, fun h => nomatch h⟩
    | some w =>
      have hd2 : isW G p = true := by unfold isW; rw [hg]; rfl
      have hd3 : dd G p = (w : Int) - (p.1 : Int) + 1 := by unfold dd; rw [hg]
      have hp2 : dpV G p = .tup [.int (p.1 : Int), .int (w : Int)] := by unfold dpV; rw [hg]; rfl
      rw [hp2, hd2, hd3]
      (repeat (first | sizeOf_list_dec))
      exact ⟨rfl, rfl, fun _ => by (repeat (first | sizeOf_list_dec))⟩
  have e5 : ∀ M, OEQ (biP .max M [.lst ([PV.int 0] ++ (((tf A).zipIdx.filter (isW G)).map fun p => PV.int (dd G p)))]) (.int (dmx A G)) := fun M => ⟨by
    have := biMaxL (M := M) (n := 0) (l := ((tf A).zipIdx.filter (isW G)).map (dd G))
    rw [List.map_cons, List.map_map] at this
    rw [hm]
    exact this⟩
  have hzl : (((tf A).zipIdx.filter (isW G)).map fun p => PV.int (dd G p)).length ≤ 1000 := by
    rw [List.length_map]
    have := List.length_filter_le (isW G) (tf A).zipIdx
    rw [List.length_zipIdx] at this
    omega
  have hz6 : ([PV.int 0] : List PV).length + (((tf A).zipIdx.filter (isW G)).map fun p => PV.int (dd G p)).length ≤ sizeLine := by
    have hz : 10000000 ≤ sizeLine := by decide
    rw [List.length_singleton]
    omega
  (repeat (first | refine OP.addL hz6 ?_ | refine OP.ofE (e5 _) ?_ | sizeOf_list_dec))
  exact hfin _ _ _ _
end
end My
set_option maxHeartbeats 4000000
namespace My
open PySem DI
theorem w_someA (k : Nat) {R M : Store} {o : Option SObj} (h : Bag R M) (xs : List PV) (h1 : 1 ≤ xs.length) (h2 : xs.length < 1000000) {K : PV → Store → Prop} {X : Exc → Store → Prop} (hk : ∀ (x : PV) (M' : Store), Bag R M' → x ∈ xs → K x (M' ++ [o])) : WF (Fn T (codesOf ents) (k + 2)) 17 [.ref 0, .lst xs] (M ++ [o]) K X :=
  w_some k h.app xs h1 h2 fun v M' hb hv => by
    obtain ⟨M1, rfl, hb1⟩ := hb.unapp
    exact hk v M1 hb1 hv
def notV : PV := .tup [.str "nothing"]
theorem cln_not (n : Nat) : cln (n + 2) notV = true := by
  have h : clns 1 [PV.str "nothing"] = true := by decide +kernel
  have h2 : cln 2 notV = true := h
  exact cln_le _ 2 _ (by omega) h2
def oddL (n : Nat) : List PV := List.replicate n notV
theorem oddL_s (n : Nat) : oddL n ++ [notV] = oddL (n + 1) := by unfold oddL; rw [List.replicate_succ']
theorem cln_odd {n : Nat} (x : PV) (hx : x ∈ oddL n) (m : Nat) : cln (m + 2) x = true := by
  rw [List.eq_of_mem_replicate hx]
  exact cln_not _
theorem odd_O0 (n : Nat) : O0 (some (.lst (oddL n))) := O0.lst (n := 2) fun x hx => cln_ply _ _ (cln_odd x hx 0)
theorem ne_heardB {R M : Store} {n : Nat} (h : Bag R M) : OEQ (cmpP .NotEq (M ++ [some (.lst (oddL n))]) (.ref (R.length + 1)) (.lst (oddL n))) (.bl false) :=
  ⟨(neP_ref (by rw [← bag_len h]; exact lstAt_last)).trans (neP_same (cln_lst (n := 59) fun x hx => cln_odd x hx _))⟩
theorem _root_.DI.OP.mulL5 {M : Store} {x : PV} {k : PV → Prop} (h : k (.lst (List.replicate 5 x))) : OP (binP .Mult M (.lst [x]) (.int 5)) k := OP.mulL1 (n := 5) (by omega) h
theorem APP.Bo {R M M1 : Store} {n : Nat} {k : Store → Prop} (hb : Bag R M) (hb1 : Bag R M1) (hn : n < 100) (h : k (M1 ++ [some (.lst (oddL (n + 1)))])) : APP (M ++ [some (.lst (oddL n))]) (M1 ++ [some (.lst (oddL n))]) (.ref (R.length + 1)) (.tup [.str "nothing"]) k :=
  APP.B hb hb1 (by
    have hz : 100 ≤ sizeLine := by decide
    simp [oddL]; omega) (by rw [show PV.tup [.str "nothing"] = notV from rfl, oddL_s]; exact h)
theorem bag3 {R M : Store} {o1 o2 o3 : Option SObj} (h : Bag R M) : Bag (R ++ [o1, o2, o3]) (M ++ [o1, o2, o3]) := by
  have := ((h.app (o := o1)).app (o := o2)).app (o := o3)
  rwa [List.append_assoc, List.append_assoc, List.append_assoc, List.append_assoc] at this
theorem OS.app3 {R : Store} {o1 o2 o3 : Option SObj} (h : OS R) (h1 : O0 o1) (h2 : O0 o2) (h3 : O0 o3) : OS (R ++ [o1, o2, o3]) := by
  have := ((h.app h1).app h2).app h3
  rwa [List.append_assoc, List.append_assoc] at this
theorem Cx.more {m : Nat} {sv cs : List (List Int)} {f : List Nat} (h : Cx m sv cs f) : NoPl (rowsV sv) (rowsV cs) (.tup ((f.map fun n : Nat => PV.int (n : Int)) ++ [.int 0])) := by
  have e : PV.tup ((f.map fun n : Nat => PV.int (n : Int)) ++ [.int 0]) = frV (f ++ [0]) := by unfold frV; rw [List.map_append]; rfl
  rw [e]
  have hf := h.few
  exact fun k M _ => ⟨_, p_playedN k h.s h.hc (by omega) (ply_fr _ _) (.inr ⟨_, rfl, fr_idx _, by rw [List.length_map, List.length_append, h.l]; simp⟩) M⟩
theorem al_bf (k : Nat) {f : List Nat} (hf : ∀ n ∈ f, n < 5) {t : Nat} (ht : t ≤ 9) (M : Store) : FEQ (Fn T (codesOf ents) (k + 1)) 18 [bfV f t, bfV f t] M (.bl true) M := by
  refine f_alikeP k _ 1000 ((Rsz.tup (c := 21) fun x hx => ?_).mono (by simp; omega)) (by omega) (ply_tup (n := 59) fun x hx => ?_) M
  · obtain ⟨n, _, rfl⟩ := List.mem_map.mp hx
    have : f.getD (n % f.length) 0 ≤ 5 := by
      rw [List.getD_eq_getElem?_getD]
      cases hg : f[n % f.length]? with
      | none => simp
      | some v => have := hf v (List.mem_of_getElem? hg); simp; omega
    exact rsz_i (by omega)
  · obtain ⟨n, _, rfl⟩ := List.mem_map.mp hx
    rfl
section
variable {sv cs : List (List Int)} {f : List Nat}
/-- all streams of one lap -/
theorem strS (k : Nat) (tl : CSs) (sc : PV) (ss : List PV) (q2 q3 q4 q5 q6 q7 q8 q9 q10 q11 q12 q13 q14 q15 q16 q17 q18 q19 q20 q21 q22 q23 : Option PV) {R M : Store} (hb : Bag R M) (hOS : OS R) (hx : Cx ss.length sv cs f) (hc : CmOk ss.length cs)
    {nx : Sl → Store → Prop} {rt : PV → Store → Prop} {lp lb : Sl → Store → Prop} {X : Exc → Sl → Store → Prop}
    (hk : ∀ (R' M' : Store) (q6 q7 q14 q15 q16 q17 q18 q19 q20 q21 q22 q23 : Option PV), Bag R' M' → OS R' → WS T (Fn T (codesOf ents) (k + 20)) tl [some sc, some (.ref 0), q2, q3, q4, some (.tup ss), q6, q7, q8, q9, some (rowsV sv), some (.int (cs.length : Int)), some (rowsV cs), some (frV f), q14, q15, q16, q17, q18, q19, q20, q21, q22, q23] M' nx rt lp lb X) :
    WS T (Fn T (codesOf ents) (k + 20)) (.cons lw_1b_4 tl) [some sc, some (.ref 0), q2, q3, q4, some (.tup ss), some (.lst ((tsF ss.length sv cs f).map trV)), q7, q8, q9, some (rowsV sv), some (.int (cs.length : Int)), some (rowsV cs), some (frV f), q14, q15, q16, q17, q18, q19, q20, q21, q22, q23] M nx rt lp lb X := by
  have hm3 := hx.m3
  (repeat (first | sizeOf_list_dec))
  refine FOR.inv (fun m : Nat => PV.int (m : Int)) (fun t sp M' => ∃ (R' : Store) (q7 q14 q15 q16 q17 q18 q19 q20 q21 q22 q23 : Option PV), sp = [some sc, some (.ref 0), q2, q3, q4, some (.tup ss), some (.lst ((tsF ss.length sv cs f).map trV)), q7, q8, q9, some (rowsV sv), some (.int (cs.length : Int)), some (rowsV cs), some (frV f), q14, q15, q16, q17, q18, q19, q20, q21, q22, q23] ∧ Bag R' M' ∧ OS R') ⟨R, _, _, _, _, _, _, _, _, _, _, _, rfl, hb, hOS⟩ (fun j0 j sp M' hj hI => ?_) fun sp M' hI => ?_
  · obtain ⟨R', q7, q14, q15, q16, q17, q18, q19, q20, q21, q22, q23, rfl, hb, hOS⟩ := hI
    obtain ⟨rfl, hjl⟩ := rng_get hj
    refine WASG.n (WSET.s (WSET.s (WSET.s (WSET.s (WSET.s (WSET.s (WSET.s (WSET.z ?_))))))))
    refine lapK k sc ss _ _ _ _ _ _ _ _ _ _ _ _ _ _ _ hx hc hjl (bag_OS hb hOS) fun q14 q15 q16 q17 q18 q19 q20 q21 q22 q23 o1 o2 o3 h1 h2 h3 => ?_
    exact ⟨_, _, _, _, _, _, _, _, _, _, _, _, rfl, bag3 hb, hOS.app3 h1 h2 h3⟩
  · obtain ⟨R', q7, q14, q15, q16, q17, q18, q19, q20, q21, q22, q23, rfl, hb, hOS⟩ := hI
    exact hk _ _ _ _ _ _ _ _ _ _ _ _ _ _ hb hOS
/-- frames, and what is none -/
theorem strF (k : Nat) (sc : PV) (ss : List PV) (q2 q3 q4 q5 q6 q7 q8 q9 q10 q11 q12 q13 q14 q15 q16 q17 q18 q19 q20 q21 q22 q23 : Option PV) {R M : Store} (hb : Bag R M) (hOS : OS R) (hx : Cx ss.length sv cs f) (hc : CmOk ss.length cs)
    {nx : Sl → Store → Prop} {rt : PV → Store → Prop} {lp lb : Sl → Store → Prop} {X : Exc → Sl → Store → Prop}
    (hk : ∀ (R' M' : Store) (q2 q3 q4 q5 q6 q7 q8 q9 q10 q11 q12 q13 q14 q15 q16 q17 q18 q19 q20 q21 q22 q23 : Option PV), Bag R' M' → OS R' → nx [some sc, some (.ref 0), q2, q3, q4, q5, q6, q7, q8, q9, q10, q11, q12, q13, q14, q15, q16, q17, q18, q19, q20, q21, q22, q23] M') :
    WS T (Fn T (codesOf ents) (k + 20)) (.cons lw_1b_5 (.cons lw_1b_6 (.cons lw_1b_7 (.cons lw_1b_8 (.cons lw_1b_9 (.cons lw_1b_10 (.cons lw_1b_11 (.cons lw_1b_12 (.cons lw_1b_13 .nil))))))))) [some sc, some (.ref 0), q2, q3, q4, some (.tup ss), q6, q7, q8, q9, some (rowsV sv), some (.int (cs.length : Int)), some (rowsV cs), some (frV f), q14, q15, q16, q17, q18, q19, q20, q21, q22, q23] M nx rt lp lb X := by
  have hz : 10000000 ≤ sizeLine := by decide
  have hcf := hc.few
  have hfl : f.length ≤ 9 := by rw [hx.l]; exact hcf
  (repeat (first | sizeOf_list_dec))
  refine w_take (k + 19) hb 4 (by omega) (by omega) fun v M1 hb1 hv => ?_
  (repeat (first | sizeOf_list_dec))
  refine CMP.st (Bag R) (fun _ y => ∃ n : Nat, y = PV.int (n : Int) ∧ n < 5) _ hb1 (fun x _ M hM => ?_) fun ys M2 hb2 hl hR => ?_
  · (repeat (first | sizeOf_list_dec))
    refine w_take (k + 19) hM 5 (by omega) (by omega) fun n M6 hb6 hn => ?_
    exact ⟨hb6, n, rfl, by omega⟩
  obtain ⟨fr, rfl, hrl, hr5⟩ := lift_map (fun n : Nat => PV.int (n : Int)) (fun n => n < 5) ys (mem_of_R hl fun i x y a b => hR i x y a b)
  rw [hl, List.length_range] at hrl
  have hrn : fr ≠ [] := fun z => by rw [z] at hrl; simp at hrl; omega
  have e1 := fun M => fe (p_frame (k + 15) hrn (t := cs.length) (by omega) M)
  have e2 := fun M => al_bf (k + 19) hr5 hcf M
  have e3 := fun M => e_lenF fr M
  have hln : ¬ (fr.length : Int) = 0 := by
    have := List.length_pos_iff.mpr hrn
    omega
  rw [show PV.lst (fr.map fun n : Nat => PV.int (n : Int)) = .lst (fr.map fun n : Nat => PV.int (n : Int)) from rfl]
  (repeat (first | refine WF.okE (e1 _) ?_ | sizeOf_list_dec))
  refine CMP.map (items := List.range cs.length) (fun n : Nat => .int ((fr.getD (n % fr.length) 0 : Nat) : Int)) _ (gd0 _) (fun n hn => ?_) ?_
  · have e4 := fun M => e_frm hrn n M
    (repeat (first | refine OP.ofE (e3 _) ?_ | refine OP.ofE (e4 _) ?_ | sizeOf_list_dec))
  (repeat (first | refine WF.okE (e2 _) ?_ | sizeOf_list_dec))
  refine w_some (k + 18) hb2 _ (by simp) (by simp) fun od M3 hb3 ho => ?_
  have ho : OddS ss.length od := by
    simp only [List.mem_cons, List.not_mem_nil, or_false] at ho
    exact ho
  have ok3 := bag_OS hb3 hOS
  have e5 := fx (o_delays (k + 9) hx ho ok3.ok)
  (repeat (first | refine HRD.of (by exact rfl) ?_ | refine WF.excE e5 ?_ | sizeOf_list_dec))
  rw [bag_len hb3]
  have ok4 : OS (M3 ++ [some (.lst (oddL 1))]) := ok3.app (odd_O0 1)
  have e6 := fx (x_greatest (k + 8) (x := ⟨2, [], false⟩) (fun n => rfl) (fun M hM => o_delays (k + 8) hx ho hM) ok4)
  have ok5 : OS (M3 ++ [some (.lst (oddL 2))]) := ok3.app (odd_O0 2)
  obtain ⟨b7, e7'⟩ := x_delays (k + 9) (t := .int 0) hx.more ok5.ok
  have e7 := fx e7'
  rw [show (PV.tup [.str "nothing"]) = notV from rfl, show ([notV] : List PV) = oddL 1 from rfl]
  (repeat (first | refine WE.appB hb3 (by exact rfl) ?_ | refine HRD.of (by exact rfl) ?_ | refine WF.excE e6 ?_ | refine WF.excE e7 ?_ | refine APP.Bo hb3 hb3 (by omega) ?_ | sizeOf_list_dec))
  refine w_someA (k + 18) hb3 _ (by simp) (by simp) fun of M4 hb4 hof => ?_
  have hof : OddF of := by
    simp only [List.mem_cons, List.not_mem_nil, or_false] at hof
    exact hof
  have e8 := fun M => fx (x_frame (k + 15) hof M)
  (repeat (first | refine WF.excE (e8 _) ?_ | refine HRD.of (by exact rfl) ?_ | refine APP.Bo hb3 hb4 (by omega) ?_ | refine WE.appB hb4 (by exact rfl) ?_ | sizeOf_list_dec))
  refine w_someA (k + 18) hb4 _ (by simp) (by simp) fun ot M5 hb5 hot => ?_
  have hot : OddT ot := by
    simp only [List.mem_cons, List.not_mem_nil, or_false] at hot
    exact hot
  have e9 := fun M => fx (t_frame (k + 15) hrn hot M)
  have e10 := ne_heardB (n := 5) hb5
  (repeat (first | refine WF.excE (e9 _) ?_ | refine HRD.of (by exact rfl) ?_ | refine APP.Bo hb4 hb5 (by omega) ?_ | refine OP.mulL5 ?_ | refine OP.ofE e10 ?_ | sizeOf_list_dec))
  exact hk (R ++ [some (.lst (oddL 5))]) _ _ _ _ _ _ _ _ _ _ _ _ _ _ _ _ _ _ _ _ _ _ _ hb5.app (hOS.app (odd_O0 5))
end
end My
set_option maxHeartbeats 4000000
namespace My
open PySem DI
theorem c_law_eq : codesOf ents 24 = some ⟨1, c_law.names, lw⟩ := rfl
theorem WF.exi {Γ : Fns} {f : Nat} {ps : List PV} {M : Store} {p : PV} (h : WF Γ f ps M (fun q _ => q = p) NoX) : ∃ M', Γ f ps M = .ok p M' := by
  have h1 := h.run
  cases hv : Γ f ps M with
  | ok q M2 => rw [hv] at h1; cases h1; exact ⟨M2, rfl⟩
  | exc x M2 => rw [hv] at h1; exact h1.elim
  | bad => rw [hv] at h1; exact h1.elim
theorem oneCx (c : Int) (h : 0 ≤ c) : Cx 1 [[1]] [[c]] [0] where
  s := ⟨by simp, by simp, fun r hr => by rw [List.mem_singleton.mp hr]; rfl, fun r hr v hv => by
    rw [List.mem_singleton.mp hr] at hv
    rw [List.mem_singleton.mp hv]
    omega⟩
  m1 := Nat.le_refl _
  m3 := by omega
  hc := fun r hr => by
    rw [List.mem_singleton.mp hr]
    exact ⟨rfl, fun v hv => by rw [List.mem_singleton.mp hv]; exact h⟩
  few := by simp
  fo := fun n hn => by rw [List.mem_singleton.mp hn]; simp
  l := rfl
theorem tf_one (a : Int) : tf [a] = List.replicate a.toNat 0 := by
  have := tf_snoc [] a
  simpa [tf] using this
theorem one_col (c : Int) : col [[c]] 0 = [c] := rfl
theorem one_gcol : gcol (tsF 1 [[1]] [[20000]] [0]) 0 = [1] := by decide +kernel
theorem dmx_rep {A G : List Int} {n : Nat} (hA : tf A = List.replicate (n + 1) 0) (hG : tf G = [0]) : dmx A G = 1 := by
  obtain ⟨h1, h2⟩ := maxI_mem ((tf A).zipIdx.map (dd G)) 0
  have hall : ∀ v ∈ (tf A).zipIdx.map (dd G), v = 0 ∨ v = 1 := fun v hv => by
    obtain ⟨p, hp, rfl⟩ := List.mem_map.mp hv
    have hp1 : p.1 = 0 := by
      have := List.fst_mem_of_mem_zipIdx hp
      rw [hA] at this
      exact List.eq_of_mem_replicate this
    unfold dd
    cases hg : (tf G)[p.2]? with
    | none => exact .inl rfl
    | some w =>
      have hw : w = 0 := by
        have := List.mem_of_getElem? hg
        rw [hG] at this
        exact List.mem_singleton.mp this
      rw [hw, hp1]
      exact .inr rfl
  have h1m : (1 : Int) ∈ (tf A).zipIdx.map (dd G) := by
    refine List.mem_map.mpr ⟨(0, 0), ?_, ?_⟩
    · rw [hA, List.replicate_succ, List.zipIdx_cons]
      exact List.mem_cons_self
    · unfold dd
      rw [hG]
      rfl
  have h3 := h2 1 (List.mem_cons_of_mem _ h1m)
  show ((tf A).zipIdx.map (dd G)).foldl _ 0 = 1
  rcases List.mem_cons.mp h1 with h | h
  · omega
  · rcases hall _ h with h | h <;> omega
theorem one_dmx : dmx [20000] [1] = 1 := dmx_rep (n := 19999) (by rw [tf_one]; exact congrArg (List.replicate · 0) (by decide)) (by rw [tf_one]; rfl)
def endL : List PV := [.tup [.str "too large", .str "pieces", .int 20000], .tup [.str "told", .int 1]]
theorem cln_end : cln 60 (.lst endL) = true := by
  have h1 : clns 1 [PV.str "too large", .str "pieces", .int 20000] = true := by decide +kernel
  have h2 : clns 1 [PV.str "told", .int 1] = true := by decide +kernel
  refine cln_lst (n := 59) fun x hx => ?_
  simp only [endL, List.mem_cons, List.not_mem_nil, or_false] at hx
  rcases hx with rfl | rfl
  · exact cln_le _ 2 _ (by omega) h1
  · exact cln_le _ 2 _ (by omega) h2
theorem strE (k : Nat) (sc : PV) (q2 q3 q4 q5 q6 q7 q8 q9 q10 q11 q12 q13 q14 q15 q16 q17 q18 q19 q20 q21 q22 q23 : Option PV) {R M : Store} (hb : Bag R M) (hOS : OS R)
    {nx : Sl → Store → Prop} {rt : PV → Store → Prop} {lp lb : Sl → Store → Prop} {X : Exc → Sl → Store → Prop} (hk : ∀ M', rt (.bl true) M') :
    WS T (Fn T (codesOf ents) (k + 20)) (.cons lw_2 (.cons lw_3 (.cons lw_4 (.cons lw_5 .nil)))) [some sc, some (.ref 0), q2, q3, q4, q5, q6, q7, q8, q9, q10, q11, q12, q13, q14, q15, q16, q17, q18, q19, q20, q21, q22, q23] M nx rt lp lb X := by
  have hz : 10000000 ≤ sizeLine := by decide
  have hM := bag_OS hb hOS
  have hM1 : OS (M ++ [some (.lst [.tup [.str "too large", .str "pieces", .int 20000]])]) := hM.app (O0.lst (n := 2) fun x hx => by
    rw [List.mem_singleton.mp hx]
    have h1 : clns 1 [PV.str "too large", .str "pieces", .int 20000] = true := by decide +kernel
    have h2 : cln 2 (.tup [PV.str "too large", .str "pieces", .int 20000]) = true := h1
    exact cln_ply _ _ h2)
  have e1 : FEX (Fn T (codesOf ents) (k + 20)) 13 [.tup [.tup [.int 1]], .tup [.tup [.int 20001]], .tup [.int 0], .int 0] M ⟨1, [.str "pieces", .int 20000], false⟩ M :=
    fx (x_greatest (k + 8) (x := ⟨1, [.str "pieces", .int 20000], false⟩) (fun n => rfl) (fun M hM => l_delays (k + 8) (oneCx 20001 (by omega)) (j := 0) (by omega) (by rw [one_col]; decide) hM) hM)
  have e2' := p_greatest (k + 8) (oneCx 20000 (by omega)) (j := 0) (by omega) (by rw [one_col]; decide) hM1
  rw [one_col, one_gcol, one_dmx] at e2'
  have e2 : FEQ (Fn T (codesOf ents) (k + 20)) 13 [.tup [.tup [.int 1]], .tup [.tup [.int 20000]], .tup [.int 0], .int 0] (M ++ [some (.lst [.tup [.str "too large", .str "pieces", .int 20000]])]) (.int 1) (M ++ [some (.lst [.tup [.str "too large", .str "pieces", .int 20000]])]) := fe e2'
  have e3 : OEQ (cmpP .Eq (M ++ [some (.lst endL)]) (.ref (R.length + 1)) (.lst endL)) (.bl true) := ⟨(eqP_ref (by rw [← bag_len hb]; exact lstAt_last)).trans (eqP_same cln_end)⟩
  (repeat (first | refine HRD.of (by exact rfl) ?_ | refine WF.excE e1 ?_ | sizeOf_list_dec))
  rw [bag_len hb]
  (repeat (first | refine WE.appB hb (by exact rfl) ?_ | refine WF.okE e2 ?_ | refine APP.B hb hb (by simp only [List.length_singleton]; omega) ?_ | refine OP.ofE e3 ?_ | sizeOf_list_dec))
  exact hk _
section
variable {sv cs : List (List Int)} {f : List Nat}
theorem strT (k : Nat) (tl : CSs) (sc : PV) (ss : List PV) (q2 q3 q4 q5 q6 q7 q8 q9 q10 q11 q12 q13 q14 q15 q16 q17 q18 q19 q20 q21 q22 q23 : Option PV) {M : Store} (hM : okS M) (hx : Cx ss.length sv cs f)
    {nx : Sl → Store → Prop} {rt : PV → Store → Prop} {lp lb : Sl → Store → Prop} {X : Exc → Sl → Store → Prop}
    (hk : WS T (Fn T (codesOf ents) (k + 20)) tl [some sc, some (.ref 0), q2, q3, q4, some (.tup ss), some (.lst ((tsF ss.length sv cs f).map trV)), q7, q8, q9, some (rowsV sv), some (.int (cs.length : Int)), some (rowsV cs), some (frV f), q14, q15, q16, q17, q18, q19, q20, q21, q22, q23] M nx rt lp lb X) :
    WS T (Fn T (codesOf ents) (k + 20)) (.cons lw_1b_3 tl) [some sc, some (.ref 0), q2, q3, q4, some (.tup ss), q6, q7, q8, q9, some (rowsV sv), some (.int (cs.length : Int)), some (rowsV cs), some (frV f), q14, q15, q16, q17, q18, q19, q20, q21, q22, q23] M nx rt lp lb X := by
  have e2 := fe (pl_law (k + 19) hx.s hx.m3 hx.pl hM)
  (repeat (first | sizeOf_list_dec))
  exact hk
theorem lapAll (k : Nat) (sc : PV) (ss : List PV) (q2 q3 q4 q5 q6 q7 q8 q9 q10 q11 q12 q13 q14 q15 q16 q17 q18 q19 q20 q21 q22 q23 : Option PV) {R M : Store} (hb : Bag R M) (hOS : OS R) (hx : Cx ss.length sv cs f) (hc : CmOk ss.length cs)
    {nx : Sl → Store → Prop} {rt : PV → Store → Prop} {lp lb : Sl → Store → Prop} {X : Exc → Sl → Store → Prop}
    (hk : ∀ (R' M' : Store) (q2 q3 q4 q5 q6 q7 q8 q9 q10 q11 q12 q13 q14 q15 q16 q17 q18 q19 q20 q21 q22 q23 : Option PV), Bag R' M' → OS R' → nx [some sc, some (.ref 0), q2, q3, q4, q5, q6, q7, q8, q9, q10, q11, q12, q13, q14, q15, q16, q17, q18, q19, q20, q21, q22, q23] M') :
    WS T (Fn T (codesOf ents) (k + 20)) (.cons lw_1b_3 (.cons lw_1b_4 (.cons lw_1b_5 (.cons lw_1b_6 (.cons lw_1b_7 (.cons lw_1b_8 (.cons lw_1b_9 (.cons lw_1b_10 (.cons lw_1b_11 (.cons lw_1b_12 (.cons lw_1b_13 .nil))))))))))) [some sc, some (.ref 0), q2, q3, q4, some (.tup ss), q6, q7, q8, q9, some (rowsV sv), some (.int (cs.length : Int)), some (rowsV cs), some (frV f), q14, q15, q16, q17, q18, q19, q20, q21, q22, q23] M nx rt lp lb X := by
  refine strT k (.cons lw_1b_4 (.cons lw_1b_5 (.cons lw_1b_6 (.cons lw_1b_7 (.cons lw_1b_8 (.cons lw_1b_9 (.cons lw_1b_10 (.cons lw_1b_11 (.cons lw_1b_12 (.cons lw_1b_13 .nil)))))))))) sc ss _ _ _ none _ _ _ _ none none none none _ _ _ _ _ _ _ _ _ _ (bag_OS hb hOS).ok hx ?_
  refine strS k (.cons lw_1b_5 (.cons lw_1b_6 (.cons lw_1b_7 (.cons lw_1b_8 (.cons lw_1b_9 (.cons lw_1b_10 (.cons lw_1b_11 (.cons lw_1b_12 (.cons lw_1b_13 .nil))))))))) sc ss _ _ _ none none _ _ _ none none none none _ _ _ _ _ _ _ _ _ _ hb hOS hx hc fun R' M6 q6 q7 q14 q15 q16 q17 q18 q19 q20 q21 q22 q23 hb6 hOS6 => ?_
  exact strF k sc ss _ _ _ none _ _ _ _ none none none none _ _ _ _ _ _ _ _ _ _ hb6 hOS6 hx hc hk
end
theorem law_ok (ns : List Int) (hn : ns.length ≤ 63) : ∃ M, DI.Fn T (DI.codesOf ents) 45 24 [.scr ns] [] = .ok (.bl true) M := by
  obtain ⟨M0, e0, hb0⟩ := f_bag 43 ns
  have e0' := fe e0
  refine WF.exi (WF.run_ (n := 23) c_law_eq rfl rfl ?_)
  simp only [List.map_cons, List.map_nil, List.replicate, List.cons_append, List.nil_append]
  generalize PV.scr ns = sc at *
  (repeat (first | sizeOf_list_dec))
  refine FOR.inv (fun m : Nat => PV.int (0 + (m : Int))) (fun j sp M' => ∃ (R : Store) (q2 q3 q4 q5 q6 q7 q8 q9 q10 q11 q12 q13 q14 q15 q16 q17 q18 q19 q20 q21 q22 q23 : Option PV), sp = [some sc, some (.ref 0), q2, q3, q4, q5, q6, q7, q8, q9, q10, q11, q12, q13, q14, q15, q16, q17, q18, q19, q20, q21, q22, q23] ∧ Bag R M' ∧ OS R)
    ⟨[], _, _, _, _, _, _, _, _, _, _, _, _, _, _, _, _, _, _, _, _, _, _, rfl, hb0, OS.nil⟩ (fun j v sp M' hj hI => ?_) fun sp M' hI => ?_
  · obtain ⟨R, q2, q3, q4, q5, q6, q7, q8, q9, q10, q11, q12, q13, q14, q15, q16, q17, q18, q19, q20, q21, q22, q23, rfl, hb, hOS⟩ := hI
    (repeat (first | sizeOf_list_dec))
    refine w_streams 42 hb fun ss M1 hb1 h1 h3 => ?_
    (repeat (first | sizeOf_list_dec))
    refine w_services 40 hb1 ss h1 h3 fun sv M2 hb2 hs => ?_
    (repeat (first | sizeOf_list_dec))
    refine w_take 43 hb2 10 (by omega) (by omega) fun t M3 hb3 ht => ?_
    (repeat (first | sizeOf_list_dec))
    refine w_comes 40 hb3 ss t (by omega) fun cs M4 hb4 hc htl => ?_
    subst htl
    have e1 := fun M => e_lenS sv M
    (repeat (first | sizeOf_list_dec))
    refine CMP.st (Bag R) (fun _ y => ∃ n : Nat, y = PV.int (n : Int) ∧ n < sv.length) _ hb4 (fun x _ M hM => ?_) fun ys M5 hb5 hl hR => ?_
    · (repeat (first | refine OP.ofE (e1 _) ?_ | sizeOf_list_dec))
      refine w_take 43 hM _ (by have := hs.ne; omega) (by have := hs.few; omega) fun n M6 hb6 hn => ?_
      exact ⟨hb6, n, rfl, by omega⟩
    obtain ⟨f, rfl, hfl, hfo⟩ := lift_map (fun n : Nat => PV.int (n : Int)) (fun n => n < sv.length) ys (mem_of_R hl fun i x y a b => hR i x y a b)
    rw [hl, List.length_range] at hfl
    have hx : Cx ss.length sv cs f := ⟨hs, h1, h3, fun r hr => ⟨hc.len r hr, fun v hv => (hc.nn r hr v hv).1⟩, by have := hc.few; omega, hfo, hfl⟩
    (repeat (first | exact lapAll 24 sc ss _ _ _ none _ _ _ _ none none none none _ _ _ _ _ _ _ _ _ _ hb5 hOS hx hc fun R' M7 q2 q3 q4 q5 q6 q7 q8 q9 q10 q11 q12 q13 q14 q15 q16 q17 q18 q19 q20 q21 q22 q23 hb7 hOS7 => ⟨_, _, _, _, _, _, _, _, _, _, _, _, _, _, _, _, _, _, _, _, _, _, _, rfl, hb7, hOS7⟩ | sizeOf_list_dec))
  · obtain ⟨R, q2, q3, q4, q5, q6, q7, q8, q9, q10, q11, q12, q13, q14, q15, q16, q17, q18, q19, q20, q21, q22, q23, rfl, hb, hOS⟩ := hI
    exact strE 24 sc _ _ _ _ _ _ _ _ _ _ _ _ _ _ _ _ _ _ _ _ _ _ hb hOS fun M' => rfl
end My
open PySem PySem.W PyProof.Rows in
set_option maxHeartbeats 0 in
theorem PySem.Challenge.cw_servedever_k30_delays_and_frames_over_an_holds : PySem.Challenge.rw_servedever_k30_delays_and_frames_over_an.Holds := by
  w_on; o_law; k_head; (case hw => w_witness2)
  k_fill
  refine DI.walkDL (l := PySem.Challenge.rw_servedever_k30_delays_and_frames_over_an) (k := 45) My.T (DI.codesOf My.ents) 24 ("law" ++ ".<locals>." ++ "<lambda>") (DI.dScope (My.top 39)).names rfl (by decide) rfl ⟨⟨rfl, by decide, by decide⟩, rfl⟩ (by decide +kernel) rfl My.law_ok (fun w h Y => by first | exact PySem.W.kIn_of Y | exact PySem.W.km_in_of Y) ?F
  case F =>
    intro w mg h KX G
    refine (fun tf lf => DI.tab_lam (ents := My.ents) (x := "law") rfl rfl My.owns rfl My.lns_ok tf lf My.binds My.checks KX G) ?tf ?lf
    (case lf => refine' DI.lamfact ?zA ?zL ?zF ?zC ?zV ?zP ?zH; (case zA => k_is); (case zL => k_is); (case zF => rfl); (case zC => k_is); (case zV => rfl); (case zP => kernel_rfl); (case zH => kernel_rfl))
    refine ⟨⟨?d0, ?d1, ?d2, ?d3, ?d4, ?d5, ?d6, ?d7, ?d8, ?d9, ?d10, ?d11, ?d12, ?d13, ?d14, ?d15, ?d16, ?d17, ?d18, ?d19, ?d20, ?d21, ?d22, ?d23, ?d24, ?d25, ?d26, ?d27, trivial⟩, ⟨?c0, ?c1, trivial⟩, ⟨?n0, ?n1, ?n2, ?n3, ?n4, ?n5, ?n6, ?n7, ?n8, ?n9, ?n10, ?n11, ?n12, ?n13, ?n14, ?n15, trivial⟩, ⟨?k0, ?k1, ?k2, ?k3, trivial⟩, ⟨?o0, trivial⟩, ⟨?e0, trivial⟩, ⟨?i0, ?i1, trivial⟩, ⟨My.h__law_heard, trivial⟩, ⟨?x0, ?x1, ?x2, ?x3, ?x4, ?x5, ?x6, ?x7, ?x8, trivial⟩⟩
    (case o0 => intro p hp; cases hp; show DI.OFact _ "Lines" ["services", "came", "done", "lying"]; refine' DI.ofact ?zA ?zB ?zC ?zD ?zE ?zF; (case zA => k_is); (case zB => k_is); (case zC => k_is); (case zD => k_is); (case zE => k_is); (case zF => refine' DI.fd_cons ?zG0 ?zH0; (case zG0 => k_is); (case zH0 => refine' DI.fd_cons ?zG1 ?zH1; (case zG1 => k_is); (case zH1 => refine' DI.fd_cons ?zG2 ?zH2; (case zG2 => k_is); (case zH2 => refine' DI.fd_cons ?zG3 ?zH3; (case zG3 => k_is); (case zH3 => exact DI.fd_nil))))))
    (case d25 => intro p hp; cases hp; show DI.MFact _ "Lines" "__init__" "Lines.__init__" _; refine' DI.mfactI ?zA ?zB ?zL ?zN ?zK ?zC ?zM ?zO rfl; (case zA => k_is); (case zB => k_is); (case zL => k_is); (case zN => k_is); (case zK => k_is); (case zC => k_is); (case zM => k_is); (case zO => k_is))
    (case d26 => intro p hp; cases hp; show DI.MFact _ "Lines" "lines" "Lines.lines" _; refine' DI.mfact ?zA ?zB ?zL ?zN ?zK ?zC (by decide); (case zA => k_is); (case zB => k_is); (case zL => k_is); (case zN => k_is); (case zK => k_is); (case zC => k_is); skip)
    (case d27 => intro p hp; cases hp; show DI.MFact _ "Lines" "turn" "Lines.turn" _; refine' DI.mfact ?zA ?zB ?zL ?zN ?zK ?zC (by decide); (case zA => k_is); (case zB => k_is); (case zL => k_is); (case zN => k_is); (case zK => k_is); (case zC => k_is); skip)
    (case d0 => show DI.DFact _ "is_number" (My.top 7); refine' DI.dfact ?zA ?zL ?zC ?zK; (case zA => k_is); (case zL => k_is); (case zC => k_is); (case zK => k_is))
    (case d1 => show DI.DFact _ "is_index" (My.top 8); refine' DI.dfact ?zA ?zL ?zC ?zK; (case zA => k_is); (case zL => k_is); (case zC => k_is); (case zK => k_is))
    (case d2 => show DI.DFact _ "is_tuple_of" (My.top 9); refine' DI.dfact ?zA ?zL ?zC ?zK; (case zA => k_is); (case zL => k_is); (case zC => k_is); (case zK => k_is))
    (case d3 => show DI.DFact _ "is_indexes" (My.top 10); refine' DI.dfact ?zA ?zL ?zC ?zK; (case zA => k_is); (case zL => k_is); (case zC => k_is); (case zK => k_is))
    (case d4 => show DI.DFact _ "is_rows" (My.top 11); refine' DI.dfact ?zA ?zL ?zC ?zK; (case zA => k_is); (case zL => k_is); (case zC => k_is); (case zK => k_is))
    (case d5 => show DI.DFact _ "checked_arrivals" (My.top 14); refine' DI.dfact ?zA ?zL ?zC ?zK; (case zA => k_is); (case zL => k_is); (case zC => k_is); (case zK => k_is))
    (case d6 => show DI.DFact _ "comes_of" (My.top 15); refine' DI.dfact ?zA ?zL ?zC ?zK; (case zA => k_is); (case zL => k_is); (case zC => k_is); (case zK => k_is))
    (case d7 => show DI.DFact _ "check_heaps" (My.top 17); refine' DI.dfact ?zA ?zL ?zC ?zK; (case zA => k_is); (case zL => k_is); (case zC => k_is); (case zK => k_is))
    (case d8 => show DI.DFact _ "served_by" (My.top 18); refine' DI.dfact ?zA ?zL ?zC ?zK; (case zA => k_is); (case zL => k_is); (case zC => k_is); (case zK => k_is))
    (case d9 => show DI.DFact _ "played" (My.top 23); refine' DI.dfact ?zA ?zL ?zC ?zK; (case zA => k_is); (case zL => k_is); (case zC => k_is); (case zK => k_is))
    (case d10 => show DI.DFact _ "gone_in" (My.top 24); refine' DI.dfact ?zA ?zL ?zC ?zK; (case zA => k_is); (case zL => k_is); (case zC => k_is); (case zK => k_is))
    (case d11 => show DI.DFact _ "turns_of" (My.top 25); refine' DI.dfact ?zA ?zL ?zC ?zK; (case zA => k_is); (case zL => k_is); (case zC => k_is); (case zK => k_is))
    (case d12 => show DI.DFact _ "delays" (My.top 26); refine' DI.dfact ?zA ?zL ?zC ?zK; (case zA => k_is); (case zL => k_is); (case zC => k_is); (case zK => k_is))
    (case d13 => show DI.DFact _ "greatest_delay" (My.top 27); refine' DI.dfact ?zA ?zL ?zC ?zK; (case zA => k_is); (case zL => k_is); (case zC => k_is); (case zK => k_is))
    (case d14 => show DI.DFact _ "by_frame" (My.top 28); refine' DI.dfact ?zA ?zL ?zC ?zK; (case zA => k_is); (case zL => k_is); (case zC => k_is); (case zK => k_is))
    (case d15 => show DI.DFact _ "_law_bag" (My.top 30); refine' DI.dfact ?zA ?zL ?zC ?zK; (case zA => k_is); (case zL => k_is); (case zC => k_is); (case zK => k_is))
    (case d16 => show DI.DFact _ "_law_take" (My.top 31); refine' DI.dfact ?zA ?zL ?zC ?zK; (case zA => k_is); (case zL => k_is); (case zC => k_is); (case zK => k_is))
    (case d17 => show DI.DFact _ "_law_some" (My.top 32); refine' DI.dfact ?zA ?zL ?zC ?zK; (case zA => k_is); (case zL => k_is); (case zC => k_is); (case zK => k_is))
    (case d18 => show DI.DFact _ "_law_alike" (My.top 33); refine' DI.dfact ?zA ?zL ?zC ?zK; (case zA => k_is); (case zL => k_is); (case zC => k_is); (case zK => k_is))
    (case d19 => show DI.DFact _ "_law_streams" (My.top 34); refine' DI.dfact ?zA ?zL ?zC ?zK; (case zA => k_is); (case zL => k_is); (case zC => k_is); (case zK => k_is))
    (case d20 => show DI.DFact _ "_law_services" (My.top 35); refine' DI.dfact ?zA ?zL ?zC ?zK; (case zA => k_is); (case zL => k_is); (case zC => k_is); (case zK => k_is))
    (case d21 => show DI.DFact _ "_law_played" (My.top 36); refine' DI.dfact ?zA ?zL ?zC ?zK; (case zA => k_is); (case zL => k_is); (case zC => k_is); (case zK => k_is))
    (case d22 => show DI.DFact _ "_law_comes" (My.top 37); refine' DI.dfact ?zA ?zL ?zC ?zK; (case zA => k_is); (case zL => k_is); (case zC => k_is); (case zK => k_is))
    (case d23 => show DI.DFact _ "_law_heard" (My.top 38); refine' DI.dfact ?zA ?zL ?zC ?zK; (case zA => k_is); (case zL => k_is); (case zC => k_is); (case zK => k_is))
    (case d24 => show DI.DFact _ "law" (My.top 39); refine' DI.dfact ?zA ?zL ?zC ?zK; (case zA => k_is); (case zL => k_is); (case zC => k_is); (case zK => k_is))
    (case c0 => show DI.CFact _ "MOST_TURNS" (.int 5000); refine' DI.cfactA ?zA ?zB; (case zA => k_is); (case zB => decide +kernel))
    (case c1 => show DI.CFact _ "MOST_PIECES" (.int 20000); refine' DI.cfactA ?zA ?zB; (case zA => k_is); (case zB => decide +kernel))
    (case n0 => show PySem.W.nsIn _ _ "isinstance" = _; k_is)
    (case n1 => show PySem.W.nsIn _ _ "bool" = _; k_is)
    (case n2 => show PySem.W.nsIn _ _ "int" = _; k_is)
    (case n3 => show PySem.W.nsIn _ _ "all" = _; k_is)
    (case n4 => show PySem.W.nsIn _ _ "tuple" = _; k_is)
    (case n5 => show PySem.W.nsIn _ _ "enumerate" = _; k_is)
    (case n6 => show PySem.W.nsIn _ _ "len" = _; k_is)
    (case n7 => show PySem.W.nsIn _ _ "zip" = _; k_is)
    (case n8 => show PySem.W.nsIn _ _ "min" = _; k_is)
    (case n9 => show PySem.W.nsIn _ _ "sum" = _; k_is)
    (case n10 => show PySem.W.nsIn _ _ "max" = _; k_is)
    (case n11 => show PySem.W.nsIn _ _ "range" = _; k_is)
    (case n12 => show PySem.W.nsIn _ _ "abs" = _; k_is)
    (case n13 => show PySem.W.nsIn _ _ "repr" = _; k_is)
    (case n14 => show PySem.W.nsIn _ _ "sorted" = _; k_is)
    (case n15 => show PySem.W.nsIn _ _ "set" = _; k_is)
    (case k0 => show DI.KFact _ "BadArrivals"; refine' DI.kfact ?zA; (case zA => k_is))
    (case k1 => show DI.KFact _ "TooLarge"; refine' DI.kfact ?zA; (case zA => k_is))
    (case k2 => show DI.KFact _ "Nothing"; refine' DI.kfact ?zA; (case zA => k_is))
    (case k3 => show DI.KFact _ "Lines"; refine' DI.kfact ?zA; (case zA => k_is))
    (case e0 => intro p hp; cases hp; show DI.EFact _ "Nothing"; refine' DI.efactV ?zA ?zQ ?zK ?zS ?zT; (case zA => k_is); (case zQ => k_exc); (case zK => k_is); (case zS => k_is); (case zT => k_is))
    (case i0 => intro p hp; cases hp; show DI.IFact _ _ "BadArrivals" ["index", "fault"]; refine' DI.ifact My.i_BadArrivals ?zA ?zO ?zV ?zS ?zB ?zT ?zK ?zG ?zH ?zD ?z1 ?z2 ?zI ?zY ?zF ?zC ?zE ?zN ?zP ?zL ?zM ?zU ?zW ?zQ ?zX; (case zA => k_is); (case zO => k_is); (case zV => decide +kernel); (case zS => k_is); (case zB => k_is); (case zT => k_is); (case zK => k_is); (case zG => k_is); (case zH => k_is); (case zD => k_is); (case z1 => k_is); (case z2 => k_is); (case zI => k_is); (case zY => k_is); (case zF => k_is); (case zC => k_is); (case zE => k_is); (case zN => rfl); (case zP => decide +kernel); (case zL => k_is); (case zM => k_is); (case zU => ks_is); (case zW => k_is); (case zQ => k_is); (case zX => k_is))
    (case i1 => intro p hp; cases hp; show DI.IFact _ _ "TooLarge" ["what", "limit"]; refine' DI.ifact My.i_TooLarge ?zA ?zO ?zV ?zS ?zB ?zT ?zK ?zG ?zH ?zD ?z1 ?z2 ?zI ?zY ?zF ?zC ?zE ?zN ?zP ?zL ?zM ?zU ?zW ?zQ ?zX; (case zA => k_is); (case zO => k_is); (case zV => decide +kernel); (case zS => k_is); (case zB => k_is); (case zT => k_is); (case zK => k_is); (case zG => k_is); (case zH => k_is); (case zD => k_is); (case z1 => k_is); (case z2 => k_is); (case zI => k_is); (case zY => k_is); (case zF => k_is); (case zC => k_is); (case zE => k_is); (case zN => rfl); (case zP => decide +kernel); (case zL => k_is); (case zM => k_is); (case zU => ks_is); (case zW => k_is); (case zQ => k_is); (case zX => k_is))
    (case x0 => intro p q hp hq; cases hp; cases hq; show DI.XFact _ "BadArrivals" "BadArrivals" true; refine' DI.xfact ?zA ?zB ?z1 ?z2 ?z3 ?z4; (case zA => k_is); (case zB => k_is); (case z1 => k_is); (case z2 => k_is); (case z3 => k_is); (case z4 => k_is))
    (case x1 => intro p q hp hq; cases hp; cases hq; show DI.XFact _ "BadArrivals" "Nothing" false; refine' DI.xfact ?zA ?zB ?z1 ?z2 ?z3 ?z4; (case zA => k_is); (case zB => k_is); (case z1 => k_is); (case z2 => k_is); (case z3 => k_is); (case z4 => k_is))
    (case x2 => intro p q hp hq; cases hp; cases hq; show DI.XFact _ "BadArrivals" "TooLarge" false; refine' DI.xfact ?zA ?zB ?z1 ?z2 ?z3 ?z4; (case zA => k_is); (case zB => k_is); (case z1 => k_is); (case z2 => k_is); (case z3 => k_is); (case z4 => k_is))
    (case x3 => intro p q hp hq; cases hp; cases hq; show DI.XFact _ "Nothing" "BadArrivals" false; refine' DI.xfact ?zA ?zB ?z1 ?z2 ?z3 ?z4; (case zA => k_is); (case zB => k_is); (case z1 => k_is); (case z2 => k_is); (case z3 => k_is); (case z4 => k_is))
    (case x4 => intro p q hp hq; cases hp; cases hq; show DI.XFact _ "Nothing" "Nothing" true; refine' DI.xfact ?zA ?zB ?z1 ?z2 ?z3 ?z4; (case zA => k_is); (case zB => k_is); (case z1 => k_is); (case z2 => k_is); (case z3 => k_is); (case z4 => k_is))
    (case x5 => intro p q hp hq; cases hp; cases hq; show DI.XFact _ "Nothing" "TooLarge" false; refine' DI.xfact ?zA ?zB ?z1 ?z2 ?z3 ?z4; (case zA => k_is); (case zB => k_is); (case z1 => k_is); (case z2 => k_is); (case z3 => k_is); (case z4 => k_is))
    (case x6 => intro p q hp hq; cases hp; cases hq; show DI.XFact _ "TooLarge" "BadArrivals" false; refine' DI.xfact ?zA ?zB ?z1 ?z2 ?z3 ?z4; (case zA => k_is); (case zB => k_is); (case z1 => k_is); (case z2 => k_is); (case z3 => k_is); (case z4 => k_is))
    (case x7 => intro p q hp hq; cases hp; cases hq; show DI.XFact _ "TooLarge" "Nothing" false; refine' DI.xfact ?zA ?zB ?z1 ?z2 ?z3 ?z4; (case zA => k_is); (case zB => k_is); (case z1 => k_is); (case z2 => k_is); (case z3 => k_is); (case z4 => k_is))
    (case x8 => intro p q hp hq; cases hp; cases hq; show DI.XFact _ "TooLarge" "TooLarge" true; refine' DI.xfact ?zA ?zB ?z1 ?z2 ?z3 ?z4; (case zA => k_is); (case zB => k_is); (case z1 => k_is); (case z2 => k_is); (case z3 => k_is); (case z4 => k_is))
