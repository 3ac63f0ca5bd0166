import PyProof.Rows.All
import Wide.All
import OpenK.AllK
import Wide.FinOn
import HandS.ForMost
import HandS.ForExc
import HandS.Wide
import HandS.IsInst
import HandS.CallSlots
import HandS.TryMany
import HandS.TupAny
import HandS.TupMul
import HandS.Deep
import HandS.Star
import HandS.Style
import KE.DataMinMax
import HandS.TupSets
import KE.GoesMore
import KE.GoesEnum
import HandS.Iter
import HandS.Zip
import HandS.Small
import HandS.Ends
import PyProof.ExcBaseAll.ValueError
import KE.SortData
import PySem.Challenge.RW_servedever_k05_rates_and_rules_of_logs
set_option Elab.async false
set_option linter.all false
set_option maxRecDepth 100000
set_option maxHeartbeats 2000000
/-! # DI: values, the small store, what stands for what -/
namespace DI
open PySem PySem.Spec L2

/-- a value: tuples and lists that nobody changes by value; what is changed by its number in the store -/
inductive PV where
  | non | bl (b : Bool) | int (i : Int) | str (s : Str)
  | tup (xs : List PV) | lst (xs : List PV)
  | ref (n : Nat) | fn (f : Nat) | ty (n : String)
  | scr (ns : List Int)
  deriving Inhabited

/-- an object that may change -/
inductive SObj where
  | lst (xs : List PV)
  | ins (c : Nat) (fs : List (Option PV))
abbrev Store := List (Option SObj)
structure Exc where
  cls : Nat
  fs : List PV
inductive Res (α : Type) where
  | ok (a : α) (M : Store)
  | exc (x : Exc) (M : Store)
  | bad
def Res.bind {α β : Type} (r : Res α) (k : α → Store → Res β) : Res β :=
  match r with
  | .ok a M => k a M
  | .exc x M => .exc x M
  | .bad => .bad
abbrev Sl := List (Option PV)
inductive SRes where
  | nx (sp : Sl) (M : Store)
  | ret (p : PV) (M : Store)
  | brk (sp : Sl) (M : Store)
  | cnt (sp : Sl) (M : Store)
  | exc (x : Exc) (sp : Sl) (M : Store)
  | bad

/-- what is known of the module: the defs' names by number, the classes' names and fields -/
structure Gd where
  K : PySem.W.Frag
  mg : Str → Option Value
  fnm : Nat → Option Str
  cnm : Nat → Option (Str × List Str)
  sa : Addr
  sw : Bool

/-! ### a value of ours and one of the layer -/
def WrL (K : PySem.W.Frag) (a : Addr) (xs : List V) : Prop :=
  ∃ (o : Obj) (its : Array Value) (n : Nat), K.lookup a = some o ∧ o.cls = .type "list" ∧ o.dict = none ∧ o.data = .seq its n ∧ its.size ≤ sizeLine ∧ Vals xs its.toList
def WrT (K : PySem.W.Frag) (a : Addr) (xs : List V) : Prop :=
  ∃ (o : Obj) (its : Array Value) (n : Nat), K.lookup a = some o ∧ o.cls = .type "tuple" ∧ o.data = .seq its n ∧ its.size ≤ sizeLine ∧ Vals xs its.toList
def FxL (K : PySem.W.Frag) (O : Addr → Prop) (H : Hp) (a : Addr) (xs : List V) : Prop := H a = some (.lst xs) ∧ ¬ O a
def FxS (sw : Bool) (K : PySem.W.Frag) (O : Addr → Prop) (H : Hp) (a : Addr) (xs : List V) : Prop := (sw = true ∧ WrL K a xs) ∨ (sw = false ∧ Rd H a (.lst xs) ∧ ¬ O a)
def FxT (K : PySem.W.Frag) (O : Addr → Prop) (H : Hp) (a : Addr) (xs : List V) : Prop := (Rd H a (.tup xs) ∧ ¬ O a) ∨ WrT K a xs
theorem FxL.sq {K : PySem.W.Frag} {O : Addr → Prop} {H : Hp} {a : Addr} {xs : List V} (h : FxL K O H a xs) : SqL K H a xs := .inl (.inl h.1)
theorem FxS.sq {sw : Bool} {K : PySem.W.Frag} {O : Addr → Prop} {H : Hp} {a : Addr} {xs : List V} (h : FxS sw K O H a xs) : SqL K H a xs := h.elim (fun z => .inr z.2) fun z => .inl z.2.1
theorem FxT.sq {K : PySem.W.Frag} {O : Addr → Prop} {H : Hp} {a : Addr} {xs : List V} (h : FxT K O H a xs) : SqT K H a xs := h.elim (fun z => .inl z.1) .inr

mutual
inductive Rp (G : Gd) (ι : List Addr) (H : Hp) (O : Addr → Prop) : PV → V → Prop
  | non : Rp G ι H O .non .non
  | bl (b : Bool) : Rp G ι H O (.bl b) (.bl b)
  | int (i : Int) : Rp G ι H O (.int i) (.int i)
  | str (s : Str) : Rp G ι H O (.str s) (.str s)
  | tup {a : Addr} {vs : List V} {ps : List PV} : FxT G.K O H a vs → ps.length ≤ sizeLine → Rps G ι H O ps vs → Rp G ι H O (.tup ps) (.ref a)
  | lst {a : Addr} {vs : List V} {ps : List PV} : FxL G.K O H a vs → ps.length ≤ sizeLine → Rps G ι H O ps vs → Rp G ι H O (.lst ps) (.ref a)
  | ref {n : Nat} {a : Addr} : ι[n]? = some a → Rp G ι H O (.ref n) (.ref a)
  | fn {f : Nat} {x : Str} {a : Addr} : G.fnm f = some x → G.mg x = some (.ref a) → Rp G ι H O (.fn f) (.ref a)
  | ty (n : String) : Rp G ι H O (.ty n) (.ty n)
  | scr {a : Addr} {ns : List Int} : a = G.sa → FxS G.sw G.K O H a (ns.map V.int) → Rp G ι H O (.scr ns) (.ref a)
inductive Rps (G : Gd) (ι : List Addr) (H : Hp) (O : Addr → Prop) : List PV → List V → Prop
  | nil : Rps G ι H O [] []
  | cons {p : PV} {v : V} {ps : List PV} {vs : List V} : Rp G ι H O p v → Rps G ι H O ps vs → Rps G ι H O (p :: ps) (v :: vs)
end

/-- the places of the store's objects -/
def Own (M : Store) (ι : List Addr) (a : Addr) : Prop := ∃ (n : Nat) (o : SObj), M[n]? = some (some o) ∧ ι[n]? = some a
def ObRep (G : Gd) (ι : List Addr) (H : Hp) (O : Addr → Prop) : SObj → Addr → Prop
  | .lst ps, a => ∃ vs, H a = some (.lst vs) ∧ ps.length ≤ sizeLine ∧ Rps G ι H O ps vs
  | .ins c fs, a => ∃ nm fn C dx fvs, G.cnm c = some (nm, fn) ∧ G.mg nm = some (.ref C) ∧ H a = some (.ins C dx fvs) ∧ (∀ f ∈ fvs.map (·.1), f ∈ fn) ∧ fvs.length ≤ 900 ∧ fs.length = fn.length ∧
      ∀ (i : Nat) (f : Str) (p : PV), fn[i]? = some f → fs[i]? = some (some p) → ∃ v, fvs.lookup f = some v ∧ Rp G ι H O p v
structure MRel (G : Gd) (M : Store) (ι : List Addr) (H : Hp) : Prop where
  sa : G.sw = false → H G.sa ≠ none
  len : ι.length = M.length
  inj : ∀ (n m : Nat) (o o' : SObj) (a : Addr), M[n]? = some (some o) → M[m]? = some (some o') → ι[n]? = some a → ι[m]? = some a → n = m
  obj : ∀ (n : Nat) (o : SObj), M[n]? = some (some o) → ∃ a, ι[n]? = some a ∧ ObRep G ι H (Own M ι) o a
/-- what is kept from one state to a later one -/
structure Ext (M : Store) (ι : List Addr) (H : Hp) (M' : Store) (ι' : List Addr) (H' : Hp) : Prop where
  pre : ∀ (n : Nat) (a : Addr), ι[n]? = some a → ι'[n]? = some a
  keep : ∀ (a : Addr) (o : HO), H a = some o → ¬ Own M ι a → H' a = some o ∧ ¬ Own M' ι' a
theorem Ext.refl {M : Store} {ι : List Addr} {H : Hp} : Ext M ι H M ι H := ⟨fun _ _ h => h, fun _ _ h n => ⟨h, n⟩⟩
theorem Ext.trans {M M1 M2 : Store} {ι ι1 ι2 : List Addr} {H H1 H2 : Hp} (a : Ext M ι H M1 ι1 H1) (b : Ext M1 ι1 H1 M2 ι2 H2) : Ext M ι H M2 ι2 H2 :=
  ⟨fun n x h => b.pre n x (a.pre n x h), fun x o h n => let ⟨h1, n1⟩ := a.keep x o h n; b.keep x o h1 n1⟩
theorem Ext.rd {M M1 : Store} {ι ι1 : List Addr} {H H1 : Hp} (e : Ext M ι H M1 ι1 H1) {a : Addr} {u : HO} (h : Rd H a u ∧ ¬ Own M ι a) : Rd H1 a u ∧ ¬ Own M1 ι1 a := by
  obtain ⟨h, n⟩ := h
  rcases h with h | ⟨o, h⟩
  · exact ⟨.inl (e.keep a _ h n).1, (e.keep a _ h n).2⟩
  · exact ⟨.inr ⟨o, (e.keep a _ h n).1⟩, (e.keep a _ h n).2⟩
theorem Ext.fxL {M M1 : Store} {ι ι1 : List Addr} {H H1 : Hp} {K : PySem.W.Frag} (e : Ext M ι H M1 ι1 H1) {a : Addr} {xs : List V} (h : FxL K (Own M ι) H a xs) : FxL K (Own M1 ι1) H1 a xs := e.keep a _ h.1 h.2
theorem Ext.fxS {M M1 : Store} {ι ι1 : List Addr} {H H1 : Hp} {sw : Bool} {K : PySem.W.Frag} (e : Ext M ι H M1 ι1 H1) {a : Addr} {xs : List V} (h : FxS sw K (Own M ι) H a xs) : FxS sw K (Own M1 ι1) H1 a xs := h.elim .inl fun z => .inr ⟨z.1, e.rd z.2⟩
theorem Ext.fxT {M M1 : Store} {ι ι1 : List Addr} {H H1 : Hp} {K : PySem.W.Frag} (e : Ext M ι H M1 ι1 H1) {a : Addr} {xs : List V} (h : FxT K (Own M ι) H a xs) : FxT K (Own M1 ι1) H1 a xs := h.elim (fun z => .inl (e.rd z)) .inr
mutual
theorem Rp.ext {G : Gd} {M M1 : Store} {ι ι1 : List Addr} {H H1 : Hp} (e : Ext M ι H M1 ι1 H1) : ∀ (p : PV) (v : V), Rp G ι H (Own M ι) p v → Rp G ι1 H1 (Own M1 ι1) p v
  | .non, _, h => by cases h; exact .non
  | .bl b, _, h => by cases h; exact .bl b
  | .int i, _, h => by cases h; exact .int i
  | .str s, _, h => by cases h; exact .str s
  | .tup ps, _, h => by
    cases h with
    | tup h1 h2 h3 => exact .tup (e.fxT h1) h2 (Rps.ext e ps _ h3)
  | .lst ps, _, h => by
    cases h with
    | lst h1 h2 h3 => exact .lst (e.fxL h1) h2 (Rps.ext e ps _ h3)
  | .ref n, _, h => by
    cases h with
    | ref h1 => exact .ref (e.pre _ _ h1)
  | .fn f, _, h => by
    cases h with
    | fn h1 h2 => exact .fn h1 h2
  | .ty n, _, h => by cases h; exact .ty n
  | .scr ns, _, h => by
    cases h with
    | scr h0 h1 => exact .scr h0 (e.fxS h1)
theorem Rps.ext {G : Gd} {M M1 : Store} {ι ι1 : List Addr} {H H1 : Hp} (e : Ext M ι H M1 ι1 H1) : ∀ (ps : List PV) (vs : List V), Rps G ι H (Own M ι) ps vs → Rps G ι1 H1 (Own M1 ι1) ps vs
  | [], _, h => by cases h; exact .nil
  | p :: ps, _, h => by
    cases h with
    | cons h1 h2 => exact .cons (Rp.ext e p _ h1) (Rps.ext e ps _ h2)
end
section
variable {G : Gd} {ι : List Addr} {H : Hp} {O : Addr → Prop}
theorem Rps.length : ∀ {ps : List PV} {vs : List V}, Rps G ι H O ps vs → ps.length = vs.length
  | _, _, .nil => rfl
  | _, _, .cons _ t => congrArg (· + 1) t.length
theorem Rps.get : ∀ {ps : List PV} {vs : List V} {i : Nat} {p : PV}, Rps G ι H O ps vs → ps[i]? = some p → ∃ v, vs[i]? = some v ∧ Rp G ι H O p v
  | _, _, _, _, .nil, e => by simp at e
  | _, _, 0, _, .cons r _, e => by simp at e; subst e; exact ⟨_, rfl, r⟩
  | _, _, i + 1, p, .cons _ t, e => by
    obtain ⟨v, h1, h2⟩ := Rps.get (i := i) (p := p) t (by simpa using e)
    exact ⟨v, by simpa using h1, h2⟩
theorem Rps.getV : ∀ {ps : List PV} {vs : List V} {i : Nat} {v : V}, Rps G ι H O ps vs → vs[i]? = some v → ∃ p, ps[i]? = some p ∧ Rp G ι H O p v
  | _, _, _, _, .nil, e => by simp at e
  | _, _, 0, _, .cons r _, e => by simp at e; subst e; exact ⟨_, rfl, r⟩
  | _, _, i + 1, v, .cons _ t, e => by
    obtain ⟨p, h1, h2⟩ := Rps.getV (i := i) (v := v) t (by simpa using e)
    exact ⟨p, by simpa using h1, h2⟩
theorem Rps.append : ∀ {ps qs : List PV} {vs ws : List V}, Rps G ι H O ps vs → Rps G ι H O qs ws → Rps G ι H O (ps ++ qs) (vs ++ ws)
  | _, _, _, _, .nil, s => s
  | _, _, _, _, .cons r t, s => .cons r (t.append s)
theorem Rps.take : ∀ {ps : List PV} {vs : List V} (n : Nat), Rps G ι H O ps vs → Rps G ι H O (ps.take n) (vs.take n)
  | _, _, 0, _ => .nil
  | _, _, _ + 1, .nil => .nil
  | _, _, n + 1, .cons r t => .cons r (t.take n)
theorem Rps.drop : ∀ {ps : List PV} {vs : List V} (n : Nat), Rps G ι H O ps vs → Rps G ι H O (ps.drop n) (vs.drop n)
  | _, _, 0, r => r
  | _, _, _ + 1, .nil => .nil
  | _, _, n + 1, .cons _ t => t.drop n
theorem Rps.set {p : PV} {v : V} (r : Rp G ι H O p v) : ∀ {ps : List PV} {vs : List V} (i : Nat), Rps G ι H O ps vs → Rps G ι H O (ps.set i p) (vs.set i v)
  | _, _, _, .nil => .nil
  | _, _, 0, .cons _ t => .cons r t
  | _, _, i + 1, .cons q t => .cons q (t.set r i)
theorem Rps.replicate {p : PV} {v : V} (r : Rp G ι H O p v) : ∀ n : Nat, Rps G ι H O (List.replicate n p) (List.replicate n v)
  | 0 => .nil
  | n + 1 => .cons r (Rps.replicate r n)
end

/-- the slots -/
structure SRep (G : Gd) (M : Store) (ι : List Addr) (H : Hp) (sp : Sl) (σ : St) : Prop where
  len : sp.length = σ.length
  at_ : ∀ (i : Nat) (p : PV), sp[i]? = some (some p) → ∃ v, σ[i]? = some (some v) ∧ Rp G ι H (Own M ι) p v
theorem SRep.ext {G : Gd} {M M1 : Store} {ι ι1 : List Addr} {H H1 : Hp} {sp : Sl} {σ : St} (s : SRep G M ι H sp σ) (e : Ext M ι H M1 ι1 H1) : SRep G M1 ι1 H1 sp σ :=
  ⟨s.len, fun i p h => let ⟨v, h1, h2⟩ := s.at_ i p h; ⟨v, h1, h2.ext e⟩⟩
theorem SRep.set {G : Gd} {M : Store} {ι : List Addr} {H : Hp} {sp : Sl} {σ : St} (s : SRep G M ι H sp σ) {p : PV} {v : V} (r : Rp G ι H (Own M ι) p v) (i : Nat) : SRep G M ι H (sp.set i (some p)) (σ.set i (some v)) := by
  refine ⟨by simp [s.len], fun j q h => ?_⟩
  by_cases hj : i = j
  · subst hj
    by_cases hi : i < sp.length
    · rw [List.getElem?_set_self hi] at h
      cases h
      exact ⟨v, List.getElem?_set_self (by rw [← s.len]; exact hi), r⟩
    · rw [List.getElem?_eq_none (by simpa using hi)] at h
      cases h
  · rw [List.getElem?_set_ne hj] at h
    obtain ⟨w, h1, h2⟩ := s.at_ j q h
    exact ⟨w, by rw [List.getElem?_set_ne hj]; exact h1, h2⟩
/-- an exception -/
def XRep (G : Gd) (ι : List Addr) (H : Hp) (O : Addr → Prop) (x : Exc) (cv : Value) (d : Option Addr) : Prop :=
  ∃ nm fn C, G.cnm x.cls = some (nm, fn) ∧ G.mg nm = some (.ref C) ∧ cv = .ref C ∧
    ∀ (i : Nat) (p : PV), x.fs[i]? = some p → ∃ f dd fvs v, fn[i]? = some f ∧ d = some dd ∧ H dd = some (.xd fvs) ∧ fvs.lookup f = some v ∧ Rp G ι H O p v

/-! ### results -/
section
variable (G : Gd) (W : WX) (σ : St) (M : Store) (ι : List Addr) (H : Hp)
def PostE (Q : VK) : Res PV → Prop
  | .ok p M' => ∀ ι' H' v, MRel G M' ι' H' → Ext M ι H M' ι' H' → Rp G ι' H' (Own M' ι') p v → Q v H'
  | .exc x M' => ∀ ι' H' cv d, MRel G M' ι' H' → Ext M ι H M' ι' H' → XRep G ι' H' (Own M' ι') x cv d → W cv d σ H'
  | .bad => False
def PostA (Q : List V → Hp → Prop) : Res (List PV) → Prop
  | .ok ps M' => ∀ ι' H' vs, MRel G M' ι' H' → Ext M ι H M' ι' H' → Rps G ι' H' (Own M' ι') ps vs → Q vs H'
  | .exc x M' => ∀ ι' H' cv d, MRel G M' ι' H' → Ext M ι H M' ι' H' → XRep G ι' H' (Own M' ι') x cv d → W cv d σ H'
  | .bad => False
def PostT (Q : Bool → Hp → Prop) : Res Bool → Prop
  | .ok b M' => ∀ ι' H', MRel G M' ι' H' → Ext M ι H M' ι' H' → Q b H'
  | .exc x M' => ∀ ι' H' cv d, MRel G M' ι' H' → Ext M ι H M' ι' H' → XRep G ι' H' (Own M' ι') x cv d → W cv d σ H'
  | .bad => False
end
def PostS (G : Gd) (W : WX) (D : Ends) (M : Store) (ι : List Addr) (H : Hp) : SRes → Prop
  | .nx sp M' => ∀ ι' H' σ', MRel G M' ι' H' → Ext M ι H M' ι' H' → SRep G M' ι' H' sp σ' → D.nx σ' H'
  | .brk sp M' => ∀ ι' H' σ', MRel G M' ι' H' → Ext M ι H M' ι' H' → SRep G M' ι' H' sp σ' → D.bk σ' H'
  | .cnt sp M' => ∀ ι' H' σ', MRel G M' ι' H' → Ext M ι H M' ι' H' → SRep G M' ι' H' sp σ' → D.ct σ' H'
  | .ret p M' => ∀ ι' H' v, MRel G M' ι' H' → Ext M ι H M' ι' H' → Rp G ι' H' (Own M' ι') p v → D.rt v H'
  | .exc x sp M' => ∀ ι' H' σ' cv d, MRel G M' ι' H' → Ext M ι H M' ι' H' → SRep G M' ι' H' sp σ' → XRep G ι' H' (Own M' ι') x cv d → W cv d σ' H'
  | .bad => False
abbrev Ev (α : Type) := Sl → Store → Res α
abbrev Ex := Sl → Store → SRes
def LE (G : Gd) (W : WX) (c : Ev PV) : TE := fun σ H Q => ∃ M ι sp, MRel G M ι H ∧ SRep G M ι H sp σ ∧ PostE G W σ M ι H Q (c sp M)
def LT (G : Gd) (W : WX) (c : Ev Bool) : TT := fun σ H Q => ∃ M ι sp, MRel G M ι H ∧ SRep G M ι H sp σ ∧ PostT G W σ M ι H Q (c sp M)
def LA (G : Gd) (W : WX) (c : Ev (List PV)) : TA := fun σ H Q => ∃ M ι sp, MRel G M ι H ∧ SRep G M ι H sp σ ∧ PostA G W σ M ι H Q (c sp M)
def LS (G : Gd) (W : WX) (c : Ex) : TS := fun D σ H => ∃ M ι sp, MRel G M ι H ∧ SRep G M ι H sp σ ∧ PostS G W D M ι H (c sp M)

/-! ### another reading -/
theorem _root_.L2.PE.w {X : Cx} {e : PySem.Expr} {t t' : TE} (h : PE X e t) (hw : ∀ σ H Q, t' σ H Q → t σ H Q) : PE X e t' := ⟨fun pins s σ H Q I q => h.run pins s σ H Q I (hw σ H Q q)⟩
theorem _root_.L2.PT.w {X : Cx} {e : PySem.Expr} {t t' : TT} (h : PT X e t) (hw : ∀ σ H Q, t' σ H Q → t σ H Q) : PT X e t' := ⟨fun pins s σ H Q I q => h.run pins s σ H Q I (hw σ H Q q)⟩
theorem _root_.L2.PW.w {X : Cx} {e : PySem.Expr} {t t' : TT} (h : PW X e t) (hw : ∀ σ H Q, t' σ H Q → t σ H Q) : PW X e t' := ⟨fun wh pins s σ H Q I q => h.run wh pins s σ H Q I (hw σ H Q q)⟩
theorem _root_.L2.PA.w {X : Cx} {es : List PySem.Expr} {t t' : TA} (h : PA X es t) (hw : ∀ σ H Q, t' σ H Q → t σ H Q) : PA X es t' := ⟨fun pos pins s σ H Q I q => h.run pos pins s σ H Q I (hw σ H Q q)⟩
theorem _root_.L2.PS.w {X : Cx} {st : PySem.Stmt} {t t' : TS} (h : PS X st t) (hw : ∀ D σ H, t' D σ H → t D σ H) : PS X st t' := ⟨fun pins s σ H D I q => h.run pins s σ H D I (hw D σ H q)⟩
theorem _root_.L2.PSs.w {X : Cx} {st : List PySem.Stmt} {t t' : TS} (h : PSs X st t) (hw : ∀ D σ H, t' D σ H → t D σ H) : PSs X st t' := ⟨fun pins s σ H D I q => h.run pins s σ H D I (hw D σ H q)⟩

section
variable {G : Gd} {W : WX} {σ : St} {M M1 : Store} {ι ι1 : List Addr} {H H1 : Hp}
theorem PostE.from {Q : VK} {r : Res PV} (h : PostE G W σ M ι H Q r) (e : Ext M ι H M1 ι1 H1) : PostE G W σ M1 ι1 H1 Q r := by
  cases r with
  | ok p M' => exact fun ι' H' v a b c => h ι' H' v a (e.trans b) c
  | exc x M' => exact fun ι' H' cv d a b c => h ι' H' cv d a (e.trans b) c
  | bad => exact h
theorem PostA.from {Q : List V → Hp → Prop} {r : Res (List PV)} (h : PostA G W σ M ι H Q r) (e : Ext M ι H M1 ι1 H1) : PostA G W σ M1 ι1 H1 Q r := by
  cases r with
  | ok p M' => exact fun ι' H' v a b c => h ι' H' v a (e.trans b) c
  | exc x M' => exact fun ι' H' cv d a b c => h ι' H' cv d a (e.trans b) c
  | bad => exact h
theorem PostT.from {Q : Bool → Hp → Prop} {r : Res Bool} (h : PostT G W σ M ι H Q r) (e : Ext M ι H M1 ι1 H1) : PostT G W σ M1 ι1 H1 Q r := by
  cases r with
  | ok p M' => exact fun ι' H' a b => h ι' H' a (e.trans b)
  | exc x M' => exact fun ι' H' cv d a b c => h ι' H' cv d a (e.trans b) c
  | bad => exact h
theorem PostS.from {D : Ends} {r : SRes} (h : PostS G W D M ι H r) (e : Ext M ι H M1 ι1 H1) : PostS G W D M1 ι1 H1 r := by
  cases r with
  | nx sp M' => exact fun ι' H' σ' a b c => h ι' H' σ' a (e.trans b) c
  | brk sp M' => exact fun ι' H' σ' a b c => h ι' H' σ' a (e.trans b) c
  | cnt sp M' => exact fun ι' H' σ' a b c => h ι' H' σ' a (e.trans b) c
  | ret p M' => exact fun ι' H' v a b c => h ι' H' v a (e.trans b) c
  | exc x sp M' => exact fun ι' H' σ' cv d a b c f => h ι' H' σ' cv d a (e.trans b) c f
  | bad => exact h
/-- an expression, then more -/
theorem PostE.bind {Q Q1 : VK} {r : Res PV} {k : PV → Store → Res PV} (h : PostE G W σ M ι H Q (r.bind k))
    (hq : ∀ p M1 ι1 H1 v, MRel G M1 ι1 H1 → Ext M ι H M1 ι1 H1 → Rp G ι1 H1 (Own M1 ι1) p v → PostE G W σ M1 ι1 H1 Q (k p M1) → Q1 v H1) : PostE G W σ M ι H Q1 r := by
  cases r with
  | ok p M1 => exact fun ι1 H1 v a b c => hq p M1 ι1 H1 v a b c (PostE.from (r := k p M1) h b)
  | exc x M1 => exact h
  | bad => exact h
theorem PostE.bindA {Q : List V → Hp → Prop} {Q1 : VK} {r : Res PV} {k : PV → Store → Res (List PV)} (h : PostA G W σ M ι H Q (r.bind k))
    (hq : ∀ p M1 ι1 H1 v, MRel G M1 ι1 H1 → Ext M ι H M1 ι1 H1 → Rp G ι1 H1 (Own M1 ι1) p v → PostA G W σ M1 ι1 H1 Q (k p M1) → Q1 v H1) : PostE G W σ M ι H Q1 r := by
  cases r with
  | ok p M1 => exact fun ι1 H1 v a b c => hq p M1 ι1 H1 v a b c (PostA.from (r := k p M1) h b)
  | exc x M1 => exact h
  | bad => exact h
theorem PostE.bindT {Q : Bool → Hp → Prop} {Q1 : VK} {r : Res PV} {k : PV → Store → Res Bool} (h : PostT G W σ M ι H Q (r.bind k))
    (hq : ∀ p M1 ι1 H1 v, MRel G M1 ι1 H1 → Ext M ι H M1 ι1 H1 → Rp G ι1 H1 (Own M1 ι1) p v → PostT G W σ M1 ι1 H1 Q (k p M1) → Q1 v H1) : PostE G W σ M ι H Q1 r := by
  cases r with
  | ok p M1 => exact fun ι1 H1 v a b c => hq p M1 ι1 H1 v a b c (PostT.from (r := k p M1) h b)
  | exc x M1 => exact h
  | bad => exact h
theorem PostA.bind {Q : VK} {Q1 : List V → Hp → Prop} {r : Res (List PV)} {k : List PV → Store → Res PV} (h : PostE G W σ M ι H Q (r.bind k))
    (hq : ∀ ps M1 ι1 H1 vs, MRel G M1 ι1 H1 → Ext M ι H M1 ι1 H1 → Rps G ι1 H1 (Own M1 ι1) ps vs → PostE G W σ M1 ι1 H1 Q (k ps M1) → Q1 vs H1) : PostA G W σ M ι H Q1 r := by
  cases r with
  | ok p M1 => exact fun ι1 H1 v a b c => hq p M1 ι1 H1 v a b c (PostE.from (r := k p M1) h b)
  | exc x M1 => exact h
  | bad => exact h
theorem PostA.bindA {Q : List V → Hp → Prop} {Q1 : List V → Hp → Prop} {r : Res (List PV)} {k : List PV → Store → Res (List PV)} (h : PostA G W σ M ι H Q (r.bind k))
    (hq : ∀ ps M1 ι1 H1 vs, MRel G M1 ι1 H1 → Ext M ι H M1 ι1 H1 → Rps G ι1 H1 (Own M1 ι1) ps vs → PostA G W σ M1 ι1 H1 Q (k ps M1) → Q1 vs H1) : PostA G W σ M ι H Q1 r := by
  cases r with
  | ok p M1 => exact fun ι1 H1 v a b c => hq p M1 ι1 H1 v a b c (PostA.from (r := k p M1) h b)
  | exc x M1 => exact h
  | bad => exact h
theorem PostT.bind {Q : VK} {Q1 : Bool → Hp → Prop} {r : Res Bool} {k : Bool → Store → Res PV} (h : PostE G W σ M ι H Q (r.bind k))
    (hq : ∀ b M1 ι1 H1, MRel G M1 ι1 H1 → Ext M ι H M1 ι1 H1 → PostE G W σ M1 ι1 H1 Q (k b M1) → Q1 b H1) : PostT G W σ M ι H Q1 r := by
  cases r with
  | ok p M1 => exact fun ι1 H1 a b => hq p M1 ι1 H1 a b (PostE.from (r := k p M1) h b)
  | exc x M1 => exact h
  | bad => exact h
theorem PostT.bindT {Q : Bool → Hp → Prop} {Q1 : Bool → Hp → Prop} {r : Res Bool} {k : Bool → Store → Res Bool} (h : PostT G W σ M ι H Q (r.bind k))
    (hq : ∀ b M1 ι1 H1, MRel G M1 ι1 H1 → Ext M ι H M1 ι1 H1 → PostT G W σ M1 ι1 H1 Q (k b M1) → Q1 b H1) : PostT G W σ M ι H Q1 r := by
  cases r with
  | ok p M1 => exact fun ι1 H1 a b => hq p M1 ι1 H1 a b (PostT.from (r := k p M1) h b)
  | exc x M1 => exact h
  | bad => exact h
end
end DI
set_option maxHeartbeats 2000000
/-! # DI: operations by values -/
namespace DI
open PySem PySem.Spec L2

theorem upd_some {H : Hp} {a p : Addr} {o : HO} (h : H a ≠ none) : upd H p o a ≠ none := by
  by_cases e : a = p
  · subst e
    rw [upd_same]
    exact nofun
  · rw [upd_ne e]
    exact h
section
variable {G : Gd} {M : Store} {ι : List Addr} {H : Hp}
theorem MRel.own_some (m : MRel G M ι H) {a : Addr} (h : Own M ι a) : ∃ o, H a = some o := by
  obtain ⟨n, o, h1, h2⟩ := h
  obtain ⟨b, h3, h4⟩ := m.obj n o h1
  rw [h2] at h3
  cases h3
  cases o with
  | lst ps => obtain ⟨vs, e, _⟩ := h4; exact ⟨_, e⟩
  | ins c fs => obtain ⟨_, _, _, _, _, _, _, e, _⟩ := h4; exact ⟨_, e⟩
theorem MRel.not_own (m : MRel G M ι H) {a : Addr} (h : H a = none) : ¬ Own M ι a := fun z => by
  obtain ⟨o, e⟩ := m.own_some z
  rw [h] at e; cases e
theorem ObRep.ext {M1 : Store} {ι1 : List Addr} {H1 : Hp} (e : Ext M ι H M1 ι1 H1) {o : SObj} {a : Addr} (r : ObRep G ι H (Own M ι) o a) (ha : H1 a = H a) : ObRep G ι1 H1 (Own M1 ι1) o a := by
  cases o with
  | lst ps => obtain ⟨vs, h1, h2, h3⟩ := r; exact ⟨vs, ha.trans h1, h2, h3.ext e⟩
  | ins c fs =>
    obtain ⟨nm, fn, C, dx, fvs, h1, h2, h3, h4, h5, h6, h7⟩ := r
    exact ⟨nm, fn, C, dx, fvs, h1, h2, ha.trans h3, h4, h5, h6, fun i f p q1 q2 => let ⟨v, q3, q4⟩ := h7 i f p q1 q2; ⟨v, q3, q4.ext e⟩⟩
/-- something new is laid that is no object of the store -/
theorem Ext.new {p : Addr} {o : HO} (hp : H p = none) : Ext M ι H M ι (upd H p o) :=
  ⟨fun _ _ h => h, fun a u h n => ⟨by rw [upd_ne (ne_of_none h hp)]; exact h, n⟩⟩
theorem MRel.new (m : MRel G M ι H) {p : Addr} {o : HO} (hp : H p = none) : MRel G M ι (upd H p o) :=
  ⟨fun z => upd_some (m.sa z), m.len, m.inj, fun n u h => by
    obtain ⟨a, h1, h2⟩ := m.obj n u h
    obtain ⟨w, e⟩ := m.own_some ⟨n, u, h, h1⟩
    exact ⟨a, h1, h2.ext (Ext.new hp) (upd_ne (ne_of_none e hp))⟩⟩
theorem MRel.newRp (m : MRel G M ι H) {p : Addr} {vs : List V} {ps : List PV} (hp : H p = none) (hz : ps.length ≤ sizeLine) (r : Rps G ι H (Own M ι) ps vs) : Rp G ι (upd H p (.tup vs)) (Own M ι) (.tup ps) (.ref p) :=
  .tup (.inl ⟨.inl upd_same, m.not_own hp⟩) hz (r.ext (Ext.new hp))
theorem MRel.newRl (m : MRel G M ι H) {p : Addr} {vs : List V} {ps : List PV} (hp : H p = none) (hz : ps.length ≤ sizeLine) (r : Rps G ι H (Own M ι) ps vs) : Rp G ι (upd H p (.lst vs)) (Own M ι) (.lst ps) (.ref p) :=
  .lst ⟨upd_same, m.not_own hp⟩ hz (r.ext (Ext.new hp))
end

def PostV (G : Gd) (M : Store) (ι : List Addr) (H : Hp) (Q : VK) : Option PV → Prop
  | some p => ∀ ι' H' v, MRel G M ι' H' → Ext M ι H M ι' H' → Rp G ι' H' (Own M ι') p v → Q v H'
  | none => False
section
variable {G : Gd} {M : Store} {ι : List Addr} {H : Hp} {Q : VK}
theorem PostV.now {p : PV} {v : V} (h : PostV G M ι H Q (some p)) (m : MRel G M ι H) (r : Rp G ι H (Own M ι) p v) : Q v H := h ι H v m .refl r
theorem PostV.tup {ps : List PV} {vs : List V} (h : PostV G M ι H Q (some (.tup ps))) (m : MRel G M ι H) (hz : ps.length ≤ sizeLine) (r : Rps G ι H (Own M ι) ps vs) {p : Addr} (hp : H p = none) : Q (.ref p) (upd H p (.tup vs)) :=
  h ι _ _ (m.new hp) (Ext.new hp) (m.newRp hp hz r)
theorem PostV.lst {ps : List PV} {vs : List V} (h : PostV G M ι H Q (some (.lst ps))) (m : MRel G M ι H) (hz : ps.length ≤ sizeLine) (r : Rps G ι H (Own M ι) ps vs) {p : Addr} (hp : H p = none) : Q (.ref p) (upd H p (.lst vs)) :=
  h ι _ _ (m.new hp) (Ext.new hp) (m.newRl hp hz r)
end
abbrev P1 := Store → PV → Option PV
abbrev P2 := Store → PV → PV → Option PV
abbrev PN := Store → List PV → Option PV
def LR2 (G : Gd) (f : P2) : R2 := fun x y H Q => ∃ M ι p q, MRel G M ι H ∧ Rp G ι H (Own M ι) p x ∧ Rp G ι H (Own M ι) q y ∧ PostV G M ι H Q (f M p q)
def LR1 (G : Gd) (f : P1) : V → Hp → VK → Prop := fun x H Q => ∃ M ι p, MRel G M ι H ∧ Rp G ι H (Own M ι) p x ∧ PostV G M ι H Q (f M p)
def LRN (G : Gd) (f : PN) : List V → Hp → VK → Prop := fun xs H Q => ∃ M ι ps, MRel G M ι H ∧ Rps G ι H (Own M ι) ps xs ∧ PostV G M ι H Q (f M ps)

/-! ### numbers -/
def smI (i : Int) : Bool := decide (-(2 ^ 64) < i) && decide (i < 2 ^ 64)
def mulOk (i j : Int) : Bool := smI i || smI j || decide (i.natAbs.log2 + j.natAbs.log2 < 1000000)
def divOk (j : Int) : Bool := decide (j ≠ 0) && decide (j.natAbs.log2 < 9000)
def powOk (i j : Int) : Bool := decide (0 ≤ j) && decide (j ≤ 1000000) && decide (i.natAbs < 2 ^ 64)
def repP (xs : List PV) (k : Int) : List PV := (List.replicate k.toNat xs).flatten
def repOk (xs : List PV) (k : Int) : Bool := decide (-(2 ^ 62) ≤ k) && decide (k ≤ 20001) && decide (xs.length * k.toNat ≤ 1000000)
def addP : P2 := fun _ p q => match p, q with
  | .int i, .int j => some (.int (i + j))
  | .str a, .str b => if a.length + b.length ≤ sizeLine then some (.str (a ++ b)) else none
  | .tup a, .tup b => if a.length + b.length ≤ sizeLine then some (.tup (a ++ b)) else none
  | .lst a, .lst b => if a.length + b.length ≤ sizeLine then some (.lst (a ++ b)) else none
  | _, _ => none
def subP : P2 := fun _ p q => match p, q with
  | .int i, .int j => some (.int (i - j))
  | _, _ => none
def mulP : P2 := fun _ p q => match p, q with
  | .int i, .int j => if mulOk i j = true then some (.int (i * j)) else none
  | .tup a, .int k => if repOk a k = true then some (.tup (repP a k)) else none
  | .lst a, .int k => if repOk a k = true then some (.lst (repP a k)) else none
  | _, _ => none
def divP : P2 := fun _ p q => match p, q with
  | .int i, .int j => if divOk j = true then some (.int (i.fdiv j)) else none
  | _, _ => none
def modP : P2 := fun _ p q => match p, q with
  | .int i, .int j => if j ≠ 0 then some (.int (i.fmod j)) else none
  | _, _ => none
def powP : P2 := fun _ p q => match p, q with
  | .int i, .int j => if powOk i j = true then some (.int (i ^ j.toNat)) else none
  | _, _ => none
def negP : P1 := fun _ p => match p with
  | .int i => some (.int (-i))
  | _ => none
def binP : Operator → P2
  | .Add => addP
  | .Sub => subP
  | .Mult => mulP
  | .FloorDiv => divP
  | .Mod => modP
  | .Pow => powP
  | _ => fun _ _ _ => none
section
variable {X : Cx} {G : Gd}
theorem op_fdivA : OpR X (binaryOp .FloorDiv) (rI (fun _ j => j ≠ 0 ∧ j.natAbs.log2 < 9000) fun i j => .int (i.fdiv j)) := opI fun _ _ _ _ _ _ _ hc q => PyProof.Rows.floordiv_int hc.1 q (.inl (PyProof.noPylong_of_log2 hc.2))
theorem pr_add (hK : X.K = G.K) : OpR X (binaryOp .Add) (LR2 G addP) := by
  intro pins s σ H x y v u Q I rx ry h
  obtain ⟨M, ι, p, q, m, rp, rq, post⟩ := h
  cases rp with
  | int i =>
    cases rq with
    | int j => exact op_add pins s σ H _ _ v u Q I rx ry ⟨i, j, rfl, rfl, post.now m (.int _)⟩
    | _ => exact post.elim
  | str a =>
    cases rq with
    | str b =>
      unfold addP at post
      dsimp only at post
      split at post
      · rename_i hz
        exact op_add_str pins s σ H _ _ v u Q I rx ry ⟨a, b, rfl, rfl, hz, post.now m (.str _)⟩
      · exact post.elim
    | _ => exact post.elim
  | tup ha hza ra =>
    cases rq with
    | tup hb hzb rb =>
      rename_i ps1 _ vs2 ps2
      unfold addP at post
      dsimp only at post
      split at post
      · rename_i hz
        have la := ra.length
        have lb := rb.length
        refine op_catA pins s σ H _ _ v u Q I rx ry ⟨_, _, _, _, rfl, rfl, hK ▸ ha.sq, hK ▸ hb.sq, by omega, fun e => ?_, fun e1 e2 => ?_, fun _ _ p hp => ?_⟩
        · subst e
          cases ra
          exact post.now m (.tup hb hzb rb)
        · subst e2
          cases rb
          rw [List.append_nil] at post
          exact post.now m (.tup ha hza ra)
        · exact post.tup m (by rw [List.length_append]; exact hz) (ra.append rb) hp
      · exact post.elim
    | _ => exact post.elim
  | lst ha hza ra =>
    cases rq with
    | lst hb hzb rb =>
      unfold addP at post
      dsimp only at post
      split at post
      · rename_i hz
        have la := ra.length
        have lb := rb.length
        exact op_cat pins s σ H _ _ v u Q I rx ry ⟨_, _, _, _, rfl, rfl, ha.1, hb.1, by omega, fun p hp => post.lst m (by rw [List.length_append]; exact hz) (ra.append rb) hp⟩
      · exact post.elim
    | _ => exact post.elim
  | _ => exact post.elim
theorem pr_sub : OpR X (binaryOp .Sub) (LR2 G subP) := by
  intro pins s σ H x y v u Q I rx ry h
  obtain ⟨M, ι, p, q, m, rp, rq, post⟩ := h
  cases rp with
  | int i =>
    cases rq with
    | int j => exact op_sub pins s σ H _ _ v u Q I rx ry ⟨i, j, rfl, rfl, post.now m (.int _)⟩
    | _ => exact post.elim
  | _ => exact post.elim
theorem pr_div : OpR X (binaryOp .FloorDiv) (LR2 G divP) := by
  intro pins s σ H x y v u Q I rx ry h
  obtain ⟨M, ι, p, q, m, rp, rq, post⟩ := h
  cases rp with
  | int i =>
    cases rq with
    | int j =>
      unfold divP at post
      dsimp only at post
      split at post
      · rename_i hz
        simp only [divOk, Bool.and_eq_true, decide_eq_true_eq] at hz
        exact op_fdivA pins s σ H _ _ v u Q I rx ry ⟨i, j, rfl, rfl, hz, post.now m (.int _)⟩
      · exact post.elim
    | _ => exact post.elim
  | _ => exact post.elim
theorem pr_mod : OpR X (binaryOp .Mod) (LR2 G modP) := by
  intro pins s σ H x y v u Q I rx ry h
  obtain ⟨M, ι, p, q, m, rp, rq, post⟩ := h
  cases rp with
  | int i =>
    cases rq with
    | int j =>
      unfold modP at post
      dsimp only at post
      split at post
      · rename_i hz
        exact op_modN pins s σ H _ _ v u Q I rx ry ⟨i, j, rfl, rfl, hz, post.now m (.int _)⟩
      · exact post.elim
    | _ => exact post.elim
  | _ => exact post.elim
theorem pr_pow : OpR X (binaryOp .Pow) (LR2 G powP) := by
  intro pins s σ H x y v u Q I rx ry h
  obtain ⟨M, ι, p, q, m, rp, rq, post⟩ := h
  cases rp with
  | int i =>
    cases rq with
    | int j =>
      unfold powP at post
      dsimp only at post
      split at post
      · rename_i hz
        simp only [powOk, Bool.and_eq_true, decide_eq_true_eq] at hz
        exact op_pow pins s σ H _ _ v u Q I rx ry ⟨i, j, rfl, rfl, ⟨hz.1.1, hz.1.2, hz.2⟩, post.now m (.int _)⟩
      · exact post.elim
    | _ => exact post.elim
  | _ => exact post.elim
theorem pr_neg : UnR X (unaryOp .USub) (LR1 G negP) := by
  intro pins s σ H x v Q I rx h
  obtain ⟨M, ι, p, m, rp, post⟩ := h
  cases rp with
  | int i => exact un_neg pins s σ H _ v Q I rx ⟨i, rfl, post.now m (.int _)⟩
  | _ => exact post.elim
end
end DI
set_option maxHeartbeats 2000000
namespace L2
open PySem PySem.Spec PyProof.Rows
theorem tuple_mulSame (l : Addr) (items : Array Value) (n : Nat) (dd : Option Addr) (sl : Array (Option Value)) (x : Int) (u : Tok) (c0 : (decide (x < -(2 ^ 63)) || decide (x ≥ 2 ^ 63)) = false) (c1 : (items.isEmpty || x == 1) = true) :
    Meets (Builtin.«tuple.__mul__» ⟨[.ref l, .int x u], []⟩) (fun _ R s => s.heap.get? l = some { cls := .type "tuple", dict := dd, data := .seq items n, slots := sl } ∧ R (.ok (.ret (Value.ref l))) s) :=
  .of_wp fun prog w A R s h => by
    obtain ⟨hp, g, d, tk, os⟩ := s
    obtain ⟨hl, h⟩ := h
    have f1 := AutoSeq1.idx_int
    wp_walk using wpAny_loadPart' hl
    repeat (first
      | (refine wpAny_ite_false (decide_eq_false (by rw [c0]; exact Bool.false_ne_true)) ?_; wp_walk using wpAny_loadPart' hl)
      | (refine wpAny_ite_true (decide_eq_true c1) ?_; wp_walk using wpAny_loadPart' hl))
    exact ⟨_, rfl, h⟩
theorem tuple_mulNone (l : Addr) (items : Array Value) (n : Nat) (dd : Option Addr) (sl : Array (Option Value)) (x : Int) (u : Tok) (c0 : (decide (x < -(2 ^ 63)) || decide (x ≥ 2 ^ 63)) = false) (c1 : (items.isEmpty || x == 1) = false) (c2 : (decide (x ≤ 0) || items.isEmpty) = true) :
    Meets (Builtin.«tuple.__mul__» ⟨[.ref l, .int x u], []⟩) (fun _ R s => s.heap.get? l = some { cls := .type "tuple", dict := dd, data := .seq items n, slots := sl } ∧
      R (.ok (.ret (Value.ref s.heap.objs.size))) { s with heap := s.heap.push { cls := Value.type "tuple", data := Data.seq #[] }, toks := s.toks }) :=
  .of_wp fun prog w A R s h => by
    obtain ⟨hp, g, d, tk, os⟩ := s
    obtain ⟨hl, h⟩ := h
    have f1 := AutoSeq1.idx_int
    wp_walk using wpAny_loadPart' hl
    repeat (first
      | (refine wpAny_ite_false (decide_eq_false (by rw [c0]; exact Bool.false_ne_true)) ?_; wp_walk using wpAny_loadPart' hl)
      | (refine wpAny_ite_false (decide_eq_false (by rw [c1]; exact Bool.false_ne_true)) ?_; wp_walk using wpAny_loadPart' hl)
      | (refine wpAny_ite_true (decide_eq_true c2) ?_; wp_walk using wpAny_loadPart' hl))
    exact ⟨_, rfl, h⟩
def rRepA (K : PySem.W.Frag) : R2 := fun x y H Q => ∃ l k xs, x = .ref l ∧ y = .int k ∧ SqT K H l xs ∧ -(2 ^ 62) ≤ k ∧ k ≤ 20001 ∧ xs.length * k.toNat ≤ 1000000 ∧
  (xs = [] ∨ k = 1 → Q (.ref l) H) ∧ ∀ p, H p = none → Q (.ref p) (upd H p (.tup (List.replicate k.toNat xs).flatten))
section
variable {X : Cx}
theorem op_repA : OpR X (binaryOp .Mult) (rRepA X.K) := by
  intro pins s σ H x y v u Q I rx ry h
  obtain ⟨l, k, xs, rfl, rfl, hT, k1, k2, hz, q0, q⟩ := h
  cases rx
  obtain ⟨t, rfl⟩ := ry
  obtain ⟨its, r, ⟨⟨cls, dd, data, sl⟩, ho, hc, n, hd⟩, hs⟩ := I.tuple hT
  simp only at hc hd
  subst hc hd
  have hle : its.length = xs.length := r.length.symm
  have c0 : (decide (k < -(2 ^ 63)) || decide (k ≥ 2 ^ 63)) = false := by
    rw [decide_eq_false (by omega), decide_eq_false (by omega)] <;> rfl
  by_cases hsame : its = [] ∨ k = 1
  · have c1 : (its.toArray.isEmpty || k == 1) = true := by
      rcases hsame with e | e
      · subst e; rfl
      · subst e; simp
    have hq : Q (.ref l) H := q0 (hsame.elim (fun e => .inl (by
      rw [e] at hle
      exact List.eq_nil_of_length_eq_zero hle.symm)) .inr)
    exact wpAny_binaryOp_repeat_ref (T := "tuple") (U := "int") (by decide) ⟨_, ho, rfl⟩ (fun s' => typeIs_int s' k t) noFill_tuple_mul F.fills_int_mul F.slot_int_rmul repeat_tuple F.slot_int_index.lookup
      (call_meets F.slot_int_rmul (typeIs_int s k t) F.entry_int_rmul (F.args_int_rmul_2 _ _) (int_rmul_tuple k t l its.toArray n dd sl)
        ⟨ho, rfl, ⟨_, ho, rfl⟩, call_meets F.slot_tuple_mul ⟨_, ho, rfl⟩ F.entry_tuple_mul (F.args_tuple_mul_2 _ _) (tuple_mulSame l its.toArray n dd sl k t c0 c1) ⟨ho, ⟨.ref l, H, I, rfl, hq⟩⟩⟩)
  · have hn : its ≠ [] := fun e => hsame (.inl e)
    have hk1 : k ≠ 1 := fun e => hsame (.inr e)
    have hi : its.toArray.isEmpty = false := by
      cases its with
      | nil => exact absurd rfl hn
      | cons a b => rfl
    have c1 : (its.toArray.isEmpty || k == 1) = false := by
      rw [hi, Bool.false_or]
      exact beq_eq_false_iff_ne.mpr hk1
    by_cases hk : k ≤ 0
    · have c2 : (decide (k ≤ 0) || its.toArray.isEmpty) = true := by rw [decide_eq_true hk, Bool.true_or]
      have e0 : k.toNat = 0 := by omega
      refine wpAny_binaryOp_repeat_ref (T := "tuple") (U := "int") (by decide) ⟨_, ho, rfl⟩ (fun s' => typeIs_int s' k t) noFill_tuple_mul F.fills_int_mul F.slot_int_rmul repeat_tuple F.slot_int_index.lookup
        (call_meets F.slot_int_rmul (typeIs_int s k t) F.entry_int_rmul (F.args_int_rmul_2 _ _) (int_rmul_tuple k t l its.toArray n dd sl)
          ⟨ho, rfl, ⟨_, ho, rfl⟩, call_meets F.slot_tuple_mul ⟨_, ho, rfl⟩ F.entry_tuple_mul (F.args_tuple_mul_2 _ _) (tuple_mulNone l its.toArray n dd sl k t c0 c1 c2) ⟨ho, ?_⟩⟩)
      have q' := q _ (I.hok.fresh (Nat.le_refl _))
      rw [e0] at q'
      refine ⟨.ref s.heap.objs.size, _, I.laid (t' := s.toks) (o := .tup []) (fun b ob q => Heap.get?_push_of_some _ q) (Nat.le_refl _) ?_, rfl, q'⟩
      exact ⟨Nat.zero_le _, [], .nil, IsTup.new _ _⟩
    · have hsz0 : its.toArray.size = xs.length := by rw [List.size_toArray, hle]
      have hm : ((its.toArray.size : Nat) : Int) * k ≤ 1000000 := by
        rw [hsz0]
        have e : k = (k.toNat : Int) := by omega
        rw [e, ← Int.natCast_mul]
        exact Int.ofNat_le.mpr hz
      have flen : (List.replicate k.toNat its).flatten.length ≤ sizeLine := by
        rw [PyProof.Rows.lm_len_rep_flat, hle, sizeLine_eq, Nat.mul_comm]
        omega
      have c2 : (decide (k ≤ 0) || its.toArray.isEmpty) = false := by
        rw [hi, Bool.or_false]
        exact decide_eq_false hk
      have c4 : Builtin.Tuple.tupleTooMany (((its.toArray.size : Nat) : Int) * k) = false := by
        unfold Builtin.Tuple.tupleTooMany
        rw [sizeLine_eq]
        exact decide_eq_false (by omega)
      refine wpAny_binaryOp_repeat_ref (T := "tuple") (U := "int") (by decide) ⟨_, ho, rfl⟩ (fun s' => typeIs_int s' k t) noFill_tuple_mul F.fills_int_mul F.slot_int_rmul repeat_tuple F.slot_int_index.lookup
        (call_meets F.slot_int_rmul (typeIs_int s k t) F.entry_int_rmul (F.args_int_rmul_2 _ _) (int_rmul_tuple k t l its.toArray n dd sl)
          ⟨ho, rfl, ⟨_, ho, rfl⟩, call_meets F.slot_tuple_mul ⟨_, ho, rfl⟩ F.entry_tuple_mul (F.args_tuple_mul_2 _ _) (tuple_mulW l its.toArray n dd sl k t c0 c1 c2 (by omega) c4 (by rw [size_rep, List.size_toArray]; exact flen)) ⟨ho, ?_⟩⟩)
      rw [size_rep]
      refine ⟨.ref s.heap.objs.size, _, I.laid (t' := s.toks) (o := .tup (List.replicate k.toNat xs).flatten) (fun b ob q => Heap.get?_push_of_some _ q) (Nat.le_refl _) ?_, rfl, q _ (I.hok.fresh (Nat.le_refl _))⟩
      exact ⟨by rw [PyProof.Rows.lm_len_rep_flat, sizeLine_eq, Nat.mul_comm]; omega, _, r.rep k.toNat, IsTup.new _ _⟩
end
end L2
namespace DI
open PySem PySem.Spec L2
theorem Rps.rep {G : Gd} {ι : List Addr} {H : Hp} {O : Addr → Prop} {ps : List PV} {vs : List V} (r : Rps G ι H O ps vs) : ∀ n : Nat, Rps G ι H O (List.replicate n ps).flatten (List.replicate n vs).flatten
  | 0 => .nil
  | n + 1 => by
    rw [List.replicate_succ, List.replicate_succ, List.flatten_cons, List.flatten_cons]
    exact r.append (r.rep n)
theorem repP_len (xs : List PV) (k : Int) : (repP xs k).length = xs.length * k.toNat := by
  unfold repP
  rw [PyProof.Rows.lm_len_rep_flat, Nat.mul_comm]
theorem pr_mul {X : Cx} {G : Gd} (hK : X.K = G.K) : OpR X (binaryOp .Mult) (LR2 G mulP) := by
  intro pins s σ H x y v u Q I rx ry h
  obtain ⟨M, ι, p, q, m, rp, rq, post⟩ := h
  cases rp with
  | int i =>
    cases rq with
    | int j =>
      unfold mulP at post
      dsimp only at post
      split at post
      · rename_i hz
        simp only [mulOk, smI, Bool.or_eq_true, Bool.and_eq_true, decide_eq_true_eq] at hz
        rcases hz with (hz | hz) | hz
        · exact op_mul pins s σ H _ _ v u Q I rx ry ⟨i, j, rfl, rfl, .inl hz, post.now m (.int _)⟩
        · exact op_mul pins s σ H _ _ v u Q I rx ry ⟨i, j, rfl, rfl, .inr hz, post.now m (.int _)⟩
        · exact op_mulW pins s σ H _ _ v u Q I rx ry ⟨i, j, rfl, rfl, hz, post.now m (.int _)⟩
      · exact post.elim
    | _ => exact post.elim
  | tup ha hza ra =>
    rename_i a0 vs0 ps0
    cases rq with
    | int k =>
      unfold mulP at post
      dsimp only at post
      split at post
      · rename_i hz
        simp only [repOk, Bool.and_eq_true, decide_eq_true_eq] at hz
        have la := ra.length
        refine op_repA pins s σ H _ _ v u Q I rx ry ⟨_, k, _, rfl, rfl, hK ▸ ha.sq, hz.1.1, hz.1.2, by rw [← la]; exact hz.2, fun e => ?_, fun p hp => ?_⟩
        · have e2 : repP ps0 k = ps0 := by
            rcases e with e | e
            · subst e
              cases ra
              show repP [] k = []
              unfold repP
              exact List.eq_nil_of_length_eq_zero (by rw [PyProof.Rows.lm_len_rep_flat]; rfl)
            · subst e
              exact List.append_nil _
          rw [e2] at post
          exact post.now m (.tup ha hza ra)
        · exact post.tup m (by rw [repP_len, sizeLine_eq]; omega) (ra.rep k.toNat) hp
      · exact post.elim
    | _ => exact post.elim
  | lst ha hza ra =>
    cases rq with
    | int k =>
      unfold mulP at post
      dsimp only at post
      split at post
      · rename_i hz
        simp only [repOk, Bool.and_eq_true, decide_eq_true_eq] at hz
        have la := ra.length
        exact op_rep pins s σ H _ _ v u Q I rx ry ⟨_, k, _, rfl, rfl, ha.1, by omega, by omega, by rw [← la, sizeLine_eq]; omega, fun p hp => post.lst m (by rw [repP_len, sizeLine_eq]; omega) (ra.rep k.toNat) hp⟩
      · exact post.elim
    | _ => exact post.elim
  | _ => exact post.elim
end DI
set_option maxHeartbeats 2000000
/-! # DI: comparisons -/
namespace DI
open PySem PySem.Spec L2
mutual
/-- plain data -/
def dat : PV → Option PyData
  | .non => some .none
  | .bl b => some (.bool b)
  | .int i => some (.int i)
  | .str s => some (.str s)
  | .tup xs => (dats xs).map .tuple
  | .lst xs => (dats xs).map .list
  | .ref _ => none
  | .fn _ => none
  | .ty _ => none
  | .scr _ => none
def dats : List PV → Option (List PyData)
  | [] => some []
  | x :: xs => match dat x, dats xs with
    | some d, some ds => some (d :: ds)
    | _, _ => none
end
/-- .. a list of the store's too -/
def datM (M : Store) : PV → Option PyData
  | .ref n => match M[n]? with
    | some (some (.lst xs)) => (dats xs).map .list
    | _ => none
  | p => dat p
section
variable {G : Gd} {ι : List Addr} {H : Hp} {O : Addr → Prop}
mutual
theorem Rp.dp : ∀ (p : PV) (v : V) (d : PyData), Rp G ι H O p v → dat p = some d → Dp G.K H v d
  | .non, _, _, r, e => by cases r; cases e; exact .non
  | .bl b, _, _, r, e => by cases r; cases e; exact .bl b
  | .int i, _, _, r, e => by cases r; cases e; exact .int i
  | .str s, _, _, r, e => by cases r; cases e; exact .str s
  | .tup ps, _, _, r, e => by
    cases r with
    | tup h1 h2 h3 =>
      unfold dat at e
      cases e2 : dats ps with
      | none => rw [e2] at e; cases e
      | some ds =>
        rw [e2] at e
        cases e
        exact .tup h1.sq (Rps.dp ps _ ds h3 e2)
  | .lst ps, _, _, r, e => by
    cases r with
    | lst h1 h2 h3 =>
      unfold dat at e
      cases e2 : dats ps with
      | none => rw [e2] at e; cases e
      | some ds =>
        rw [e2] at e
        cases e
        exact .lst h1.sq (Rps.dp ps _ ds h3 e2)
  | .ref _, _, _, _, e => by unfold dat at e; cases e
  | .fn _, _, _, _, e => by unfold dat at e; cases e
  | .ty _, _, _, _, e => by unfold dat at e; cases e
  | .scr _, _, _, _, e => by unfold dat at e; cases e
theorem Rps.dp : ∀ (ps : List PV) (vs : List V) (ds : List PyData), Rps G ι H O ps vs → dats ps = some ds → DpAll G.K H vs ds
  | [], _, _, r, e => by
    cases r
    unfold dats at e
    cases e
    exact .nil
  | p :: ps, _, _, r, e => by
    cases r with
    | cons r1 r2 =>
      unfold dats at e
      cases e1 : dat p with
      | none => rw [e1] at e; cases e
      | some d =>
        cases e2 : dats ps with
        | none => rw [e1, e2] at e; cases e
        | some ds =>
          rw [e1, e2] at e
          cases e
          exact .cons (Rp.dp p _ d r1 e1) (Rps.dp ps _ ds r2 e2)
end
end
theorem MRel.dp {G : Gd} {M : Store} {ι : List Addr} {H : Hp} (m : MRel G M ι H) {p : PV} {v : V} {d : PyData} (r : Rp G ι H (Own M ι) p v) (e : datM M p = some d) : Dp G.K H v d := by
  cases p with
  | ref n =>
    cases r with
    | ref h1 =>
      unfold datM at e
      dsimp only at e
      split at e
      · rename_i xs hx
        cases e2 : dats xs with
        | none => rw [e2] at e; cases e
        | some ds =>
          rw [e2] at e
          cases e
          obtain ⟨a, h3, vs, h4, _, h5⟩ := m.obj n _ hx
          rw [h1] at h3
          cases h3
          exact .lst (SqL.of h4) (Rps.dp xs _ ds h5 e2)
      · cases e
  | _ => exact Rp.dp _ _ d r e
/-- == and != -/
def eqP : P2 := fun M p q => match datM M p, datM M q with
  | some d, some e => if (SeqAt.shaped d && SeqAt.shaped e) = true then some (.bl (PyData.eqv d e)) else none
  | _, _ => none
def neP : P2 := fun M p q => match datM M p, datM M q with
  | some d, some e => if (SeqAt.shaped d && SeqAt.shaped e) = true then some (.bl (!PyData.eqv d e)) else none
  | _, _ => none
def ltP : P2 := fun _ p q => match p, q with
  | .int i, .int j => some (.bl (decide (i < j)))
  | _, _ => none
def leP : P2 := fun _ p q => match p, q with
  | .int i, .int j => some (.bl (decide (i ≤ j)))
  | _, _ => none
def gtP : P2 := fun _ p q => match p, q with
  | .int i, .int j => some (.bl (decide (j < i)))
  | _, _ => none
def geP : P2 := fun _ p q => match p, q with
  | .int i, .int j => some (.bl (decide (j ≤ i)))
  | _, _ => none
def isNon : PV → Bool
  | .non => true
  | _ => false
/-- what may stand ahead of 'is None': anything; of 'is True': a truth -/
def isP : P2 := fun _ p q => match q with
  | .non => some (.bl (isNon p))
  | .bl c => match p with
    | .bl b => some (.bl (b == c))
    | _ => none
  | _ => none
def isNotP : P2 := fun _ p q => match q with
  | .non => some (.bl (!isNon p))
  | .bl c => match p with
    | .bl b => some (.bl (!(b == c)))
    | _ => none
  | _ => none
/-- in, not in -/
def inP : P2 := fun M p q => match q with
  | .str z => match p with
    | .str c => some (.bl (!(Builtin.Str.occurrences z c 0 z.length 1).isEmpty))
    | _ => none
  | .tup _ => match dat p, dat q with
    | some d, some (.tuple ds) => if (SeqAt.shaped d && SeqAt.shaped (.list ds)) = true then some (.bl (ds.any fun z => PyData.eqv z d)) else none
    | _, _ => none
  | _ => match dat p, datM M q with
    | some d, some (.list ds) => if (SeqAt.shaped d && SeqAt.shaped (.list ds)) = true then some (.bl (ds.any fun z => PyData.eqv z d)) else none
    | _, _ => none
def notInP : P2 := fun M p q => match inP M p q with
  | some (.bl b) => some (.bl (!b))
  | _ => none
def cmpP : CmpOp → P2
  | .Eq => eqP
  | .NotEq => neP
  | .Lt => ltP
  | .LtE => leP
  | .Gt => gtP
  | .GtE => geP
  | .Is => isP
  | .IsNot => isNotP
  | .In => inP
  | .NotIn => notInP
section
variable {X : Cx} {G : Gd}
theorem pr_eq (hK : X.K = G.K) (hu : X.A.units + 64 < cLine) : OpR X (compareOp .Eq) (LR2 G eqP) := by
  intro pins s σ H x y v u Q I rx ry h
  obtain ⟨M, ι, p, q, m, rp, rq, post⟩ := h
  unfold eqP at post
  split at post
  · rename_i d e hd he
    split at post
    · rename_i hs
      obtain ⟨s1, s2⟩ := Bool.and_eq_true_iff.mp hs
      exact op_eqD hu pins s σ H x y v u Q I rx ry ⟨d, e, hK ▸ m.dp rp hd, hK ▸ m.dp rq he, s1, s2, post.now m (.bl _)⟩
    · exact post.elim
  · exact post.elim
theorem pr_ne (hK : X.K = G.K) (hu : X.A.units + 64 < cLine) : OpR X (compareOp .NotEq) (LR2 G neP) := by
  intro pins s σ H x y v u Q I rx ry h
  obtain ⟨M, ι, p, q, m, rp, rq, post⟩ := h
  unfold neP at post
  split at post
  · rename_i d e hd he
    split at post
    · rename_i hs
      obtain ⟨s1, s2⟩ := Bool.and_eq_true_iff.mp hs
      exact op_neD hu pins s σ H x y v u Q I rx ry ⟨d, e, hK ▸ m.dp rp hd, hK ▸ m.dp rq he, s1, s2, post.now m (.bl _)⟩
    · exact post.elim
  · exact post.elim
theorem pr_int {op : CmpOp} {f : P2} {g : Int → Int → Bool} (h0 : OpR X (compareOp op) (rI0 fun i j => .bl (g i j))) (h1 : ∀ M p q r, f M p q = some r → ∃ i j, p = .int i ∧ q = .int j ∧ r = .bl (g i j)) : OpR X (compareOp op) (LR2 G f) := by
  intro pins s σ H x y v u Q I rx ry h
  obtain ⟨M, ι, p, q, m, rp, rq, post⟩ := h
  cases e : f M p q with
  | none => rw [e] at post; exact post.elim
  | some r =>
    obtain ⟨i, j, rfl, rfl, rfl⟩ := h1 M p q r e
    rw [e] at post
    cases rp
    cases rq
    exact h0 pins s σ H _ _ v u Q I rx ry ⟨i, j, rfl, rfl, post.now m (.bl _)⟩
theorem int2 {g : Int → Int → Bool} {p q r : PV} (e : (match p, q with | .int i, .int j => some (PV.bl (g i j)) | _, _ => none) = some r) : ∃ i j, p = .int i ∧ q = .int j ∧ r = .bl (g i j) := by
  split at e
  · cases e; exact ⟨_, _, rfl, rfl, rfl⟩
  · cases e
theorem pr_lt : OpR X (compareOp .Lt) (LR2 G ltP) := pr_int (g := fun i j => decide (i < j)) op_lt fun M p q r e => int2 (by unfold ltP at e; exact e)
theorem pr_le : OpR X (compareOp .LtE) (LR2 G leP) := pr_int (g := fun i j => decide (i ≤ j)) op_le fun M p q r e => int2 (by unfold leP at e; exact e)
theorem pr_gt : OpR X (compareOp .Gt) (LR2 G gtP) := pr_int (g := fun i j => decide (j < i)) op_gt fun M p q r e => int2 (by unfold gtP at e; exact e)
theorem pr_ge : OpR X (compareOp .GtE) (LR2 G geP) := pr_int (g := fun i j => decide (j ≤ i)) op_ge fun M p q r e => int2 (by unfold geP at e; exact e)
theorem Rp.isNon {ι : List Addr} {H : Hp} {O : Addr → Prop} {p : PV} {v : V} (r : Rp G ι H O p v) : DI.isNon p = decide (v = .non) := by
  cases r <;> first | rfl | (symm; apply decide_eq_false; intro e; cases e)
theorem pr_is : OpR X (compareOp .Is) (LR2 G isP) := by
  intro pins s σ H x y v u Q I rx ry h
  obtain ⟨M, ι, p, q, m, rp, rq, post⟩ := h
  unfold isP at post
  split at post
  · cases rq
    refine op_isN pins s σ H x .non v u Q I rx ry ⟨rfl, ?_⟩
    rw [← rp.isNon]
    exact post.now m (.bl _)
  · rename_i c
    cases rq
    split at post
    · rename_i b
      cases rp
      exact op_isBl pins s σ H _ _ v u Q I rx ry ⟨b, c, rfl, rfl, post.now m (.bl _)⟩
    · exact post.elim
  · exact post.elim
end
end DI
set_option maxHeartbeats 2000000
/-! # DI: more comparisons, subscripts, slices, built-in functions -/
namespace DI
open PySem PySem.Spec L2
section
variable {X : Cx} {G : Gd}
theorem pr_isNot : OpR X (compareOp .IsNot) (LR2 G isNotP) := by
  intro pins s σ H x y v u Q I rx ry h
  obtain ⟨M, ι, p, q, m, rp, rq, post⟩ := h
  unfold isNotP at post
  split at post
  · cases rq
    refine op_notN pins s σ H x .non v u Q I rx ry ⟨rfl, ?_⟩
    rw [← rp.isNon]
    exact post.now m (.bl _)
  · rename_i c
    cases rq
    split at post
    · rename_i b
      cases rp
      exact op_notBl pins s σ H _ _ v u Q I rx ry ⟨b, c, rfl, rfl, post.now m (.bl _)⟩
    · exact post.elim
  · exact post.elim
def rInTD (K : PySem.W.Frag) (neg : Bool) : R2 := fun x y H Q => ∃ d ds, Dp K H x d ∧ Dp K H y (.tuple ds) ∧ SeqAt.shaped d = true ∧ SeqAt.shaped (.list ds) = true ∧ Q (.bl (if neg then !(ds.any fun z => PyData.eqv z d) else ds.any fun z => PyData.eqv z d)) H
theorem op_inTD (hu : X.A.units + 65 < cLine) : OpR X (compareOp .In) (rInTD X.K false) := by
  intro pins s σ H x y v u Q I rx ry h
  obtain ⟨d, ds, hd, he, sd, se, q⟩ := h
  obtain ⟨as, r1⟩ := Dp.reads I d x v hd rx
  obtain ⟨bs, r2⟩ := Dp.reads I (.tuple ds) y u he ry
  exact SeqAt.in_tuple_reads r2 r1 (SeqAt.canLay_of_shaped se) (SeqAt.canLay_of_shaped sd) (PyProof.Rows.room_in_shaped sd hu) ⟨.bl _, H, I, rfl, q⟩
theorem op_notInTD (hu : X.A.units + 65 < cLine) : OpR X (compareOp .NotIn) (rInTD X.K true) := by
  intro pins s σ H x y v u Q I rx ry h
  obtain ⟨d, ds, hd, he, sd, se, q⟩ := h
  obtain ⟨as, r1⟩ := Dp.reads I d x v hd rx
  obtain ⟨bs, r2⟩ := Dp.reads I (.tuple ds) y u he ry
  exact SeqAt.notIn_tuple_reads r2 r1 (SeqAt.canLay_of_shaped se) (SeqAt.canLay_of_shaped sd) (PyProof.Rows.room_in_shaped sd hu) ⟨.bl _, H, I, rfl, q⟩
theorem inP_cases {M : Store} {p q r : PV} (e : inP M p q = some r) :
    (∃ c z, p = .str c ∧ q = .str z ∧ r = .bl (!(Builtin.Str.occurrences z c 0 z.length 1).isEmpty)) ∨
    (∃ d ds, dat p = some d ∧ dat q = some (.tuple ds) ∧ SeqAt.shaped d = true ∧ SeqAt.shaped (.list ds) = true ∧ r = .bl (ds.any fun z => PyData.eqv z d)) ∨
    (∃ d ds, dat p = some d ∧ datM M q = some (.list ds) ∧ SeqAt.shaped d = true ∧ SeqAt.shaped (.list ds) = true ∧ r = .bl (ds.any fun z => PyData.eqv z d)) := by
  unfold inP at e
  split at e
  · split at e
    · cases e; exact .inl ⟨_, _, rfl, rfl, rfl⟩
    · cases e
  · split at e
    · rename_i h1 h2
      split at e
      · rename_i hs
        obtain ⟨s1, s2⟩ := Bool.and_eq_true_iff.mp hs
        cases e
        exact .inr (.inl ⟨_, _, h1, h2, s1, s2, rfl⟩)
      · cases e
    · cases e
  · split at e
    · rename_i h1 h2
      split at e
      · rename_i hs
        obtain ⟨s1, s2⟩ := Bool.and_eq_true_iff.mp hs
        cases e
        exact .inr (.inr ⟨_, _, h1, h2, s1, s2, rfl⟩)
      · cases e
    · cases e
theorem pr_in (hK : X.K = G.K) (hu : X.A.units + 65 < cLine) : OpR X (compareOp .In) (LR2 G inP) := by
  intro pins s σ H x y v u Q I rx ry h
  obtain ⟨M, ι, p, q, m, rp, rq, post⟩ := h
  cases e : inP M p q with
  | none => rw [e] at post; exact post.elim
  | some r =>
    rw [e] at post
    rcases inP_cases e with ⟨c, z, rfl, rfl, rfl⟩ | ⟨d, ds, h1, h2, s1, s2, rfl⟩ | ⟨d, ds, h1, h2, s1, s2, rfl⟩
    · cases rp
      cases rq
      exact op_in_str pins s σ H _ _ v u Q I rx ry ⟨c, z, rfl, rfl, post.now m (.bl _)⟩
    · exact op_inTD hu pins s σ H x y v u Q I rx ry ⟨d, ds, hK ▸ Rp.dp _ _ _ rp h1, hK ▸ Rp.dp _ _ _ rq h2, s1, s2, post.now m (.bl _)⟩
    · exact op_inD hu pins s σ H x y v u Q I rx ry ⟨d, ds, hK ▸ Rp.dp _ _ _ rp h1, hK ▸ m.dp rq h2, s1, s2, post.now m (.bl _)⟩
theorem pr_notIn (hK : X.K = G.K) (hu : X.A.units + 65 < cLine) : OpR X (compareOp .NotIn) (LR2 G notInP) := by
  intro pins s σ H x y v u Q I rx ry h
  obtain ⟨M, ι, p, q, m, rp, rq, post⟩ := h
  unfold notInP at post
  cases e : inP M p q with
  | none => rw [e] at post; exact post.elim
  | some r =>
    rw [e] at post
    rcases inP_cases e with ⟨c, z, rfl, rfl, rfl⟩ | ⟨d, ds, h1, h2, s1, s2, rfl⟩ | ⟨d, ds, h1, h2, s1, s2, rfl⟩
    · cases rp
      cases rq
      exact op_notin_str pins s σ H _ _ v u Q I rx ry ⟨c, z, rfl, rfl, post.now m (.bl _)⟩
    · exact op_notInTD hu pins s σ H x y v u Q I rx ry ⟨d, ds, hK ▸ Rp.dp _ _ _ rp h1, hK ▸ Rp.dp _ _ _ rq h2, s1, s2, post.now m (.bl _)⟩
    · exact op_notInD hu pins s σ H x y v u Q I rx ry ⟨d, ds, hK ▸ Rp.dp _ _ _ rp h1, hK ▸ m.dp rq h2, s1, s2, post.now m (.bl _)⟩
theorem pr_cmp (hK : X.K = G.K) (hu : X.A.units + 65 < cLine) : ∀ op : CmpOp, OpR X (compareOp op) (LR2 G (cmpP op))
  | .Eq => pr_eq hK (by omega)
  | .NotEq => pr_ne hK (by omega)
  | .Lt => pr_lt
  | .LtE => pr_le
  | .Gt => pr_gt
  | .GtE => pr_ge
  | .Is => pr_is
  | .IsNot => pr_isNot
  | .In => pr_in hK hu
  | .NotIn => pr_notIn hK hu
theorem pr_bad {f : Value → Value → Sem Value} : OpR X f (LR2 G fun _ _ _ => none) := by
  intro pins s σ H x y v u Q I rx ry h
  obtain ⟨M, ι, p, q, m, rp, rq, post⟩ := h
  exact post.elim
theorem pr_bin (hK : X.K = G.K) : ∀ op : Operator, OpR X (binaryOp op) (LR2 G (binP op))
  | .Add => pr_add hK
  | .Sub => pr_sub
  | .Mult => pr_mul hK
  | .FloorDiv => pr_div
  | .Mod => pr_mod
  | .Pow => pr_pow
  | .MatMult => pr_bad
  | .Div => pr_bad
  | .LShift => pr_bad
  | .RShift => pr_bad
  | .BitOr => pr_bad
  | .BitXor => pr_bad
  | .BitAnd => pr_bad

/-! ### subscripts -/
/-- a list of the store, as it stands -/
def lstAt (M : Store) (n : Nat) : Option (List PV) := match M[n]? with
  | some (some (.lst xs)) => some xs
  | _ => none
theorem MRel.lstAt {M : Store} {ι : List Addr} {H : Hp} (m : MRel G M ι H) {n : Nat} {xs : List PV} {v : V} (h : DI.lstAt M n = some xs) (r : Rp G ι H (Own M ι) (.ref n) v) : ∃ a vs, v = .ref a ∧ ι[n]? = some a ∧ M[n]? = some (some (.lst xs)) ∧ H a = some (.lst vs) ∧ xs.length ≤ sizeLine ∧ Rps G ι H (Own M ι) xs vs := by
  unfold DI.lstAt at h
  split at h
  · rename_i ys hy
    cases h
    cases r with
    | ref h1 =>
      obtain ⟨a, h3, vs, h4, h5, h6⟩ := m.obj n _ hy
      rw [h1] at h3
      cases h3
      exact ⟨_, vs, rfl, h1, hy, h4, h5, h6⟩
  · cases h
def idxP : P2 := fun M p q => match q with
  | .int i => match p with
    | .tup xs => atI xs i
    | .lst xs => atI xs i
    | .ref n => match lstAt M n with
      | some xs => atI xs i
      | none => none
    | .str s => if s.length ≤ sizeLine then (atI s.cps.toList i).map fun c => .str ⟨#[c]⟩ else none
    | _ => none
  | _ => none
theorem Rps.atI {ι : List Addr} {H : Hp} {O : Addr → Prop} {ps : List PV} {vs : List V} {i : Int} {p : PV} (r : Rps G ι H O ps vs) (e : L2.atI ps i = some p) : ∃ v, L2.atI vs i = some v ∧ Rp G ι H O p v := by
  unfold L2.atI at e ⊢
  rw [← r.length]
  cases q : ixN ps.length i with
  | none => rw [q] at e; cases e
  | some j =>
    rw [q] at e
    exact r.get e
theorem pr_idx (hK : X.K = G.K) : IxR X (LR2 G idxP) := by
  intro val slc pins s σ H x y v u Q I rx ry h hs
  obtain ⟨M, ι, p, q, m, rp, rq, post⟩ := h
  unfold idxP at post
  split at post
  · rename_i i
    cases rq
    split at post
    · cases rp with
      | tup h1 h2 h3 =>
        cases e : L2.atI _ i with
        | none => rw [e] at post; exact post.elim
        | some p =>
          rw [e] at post
          obtain ⟨w, e1, r1⟩ := h3.atI e
          exact ix_tup val slc pins s σ H _ _ v u Q I rx ry ⟨_, _, i, w, rfl, rfl, hK ▸ h1.sq, e1, post.now m r1⟩ hs
    · cases rp with
      | lst h1 h2 h3 =>
        cases e : L2.atI _ i with
        | none => rw [e] at post; exact post.elim
        | some p =>
          rw [e] at post
          obtain ⟨w, e1, r1⟩ := h3.atI e
          exact ix_list val slc pins s σ H _ _ v u Q I rx ry ⟨_, _, i, w, rfl, rfl, hK ▸ h1.sq, e1, post.now m r1⟩ hs
    · split at post
      · rename_i n _ xs hx
        obtain ⟨a, vs, rfl, h1, h2, h3, h4, h5⟩ := m.lstAt hx rp
        cases e : L2.atI xs i with
        | none => rw [e] at post; exact post.elim
        | some p =>
          rw [e] at post
          obtain ⟨w, e1, r1⟩ := h5.atI e
          exact ix_list val slc pins s σ H _ _ v u Q I rx ry ⟨_, _, i, w, rfl, rfl, SqL.of h3, e1, post.now m r1⟩ hs
      · exact post.elim
    · rename_i z
      cases rp
      split at post
      · rename_i hz
        cases e : L2.atI z.cps.toList i with
        | none => rw [e] at post; exact post.elim
        | some c =>
          rw [e] at post
          exact ix_str val slc pins s σ H _ _ v u Q I rx ry ⟨z, i, c, rfl, rfl, hz, e, post.now m (.str _)⟩ hs
      · exact post.elim
    · exact post.elim
  · exact post.elim
/-! ### slices -/
def cutP (xs : List PV) (lo hi : Option Int) : List PV := (xs.drop (HT.sIx xs.length 0 lo)).take (HT.sIx xs.length xs.length hi - HT.sIx xs.length 0 lo)
def slcP (M : Store) (p : PV) (lo hi : Option Int) : Option PV := match p with
  | .tup xs => some (.tup (cutP xs lo hi))
  | .lst xs => some (.lst (cutP xs lo hi))
  | .scr ns => some (.lst (cutP (ns.map .int) lo hi))
  | .ref n => match lstAt M n with
    | some xs => some (.lst (cutP xs lo hi))
    | none => none
  | .str s => if s.length ≤ sizeLine then some (.str (cutS s lo hi)) else none
  | _ => none
def LRSl (G : Gd) : V → Option Int → Option Int → Hp → VK → Prop := fun x lo hi H Q => ∃ M ι p, MRel G M ι H ∧ Rp G ι H (Own M ι) p x ∧ PostV G M ι H Q (slcP M p lo hi)
theorem Rps.cut {ι : List Addr} {H : Hp} {O : Addr → Prop} {ps : List PV} {vs : List V} (lo hi : Option Int) (r : Rps G ι H O ps vs) : Rps G ι H O (cutP ps lo hi) (cutV vs lo hi) := by
  unfold cutP cutV
  rw [← r.length]
  exact (r.drop _).take _
theorem cutP_len (xs : List PV) (lo hi : Option Int) : (cutP xs lo hi).length ≤ xs.length := by
  unfold cutP
  rw [List.length_take, List.length_drop]
  omega
theorem Rps.ints {ι : List Addr} {H : Hp} {O : Addr → Prop} : ∀ ns : List Int, Rps G ι H O (ns.map .int) (ns.map .int)
  | [] => .nil
  | n :: ns => .cons (.int n) (Rps.ints ns)
theorem sIx_whole {n : Nat} {lo hi : Option Int} {α : Type} (xs : List α) (h : HT.sIx xs.length 0 lo = 0 ∧ HT.sIx xs.length xs.length hi = xs.length) : (xs.drop (HT.sIx xs.length 0 lo)).take (HT.sIx xs.length xs.length hi - HT.sIx xs.length 0 lo) = xs := by
  rw [h.1, h.2]
  simp
theorem pr_slc (hK : X.K = G.K) : SlR X (LRSl G) := by
  intro pins s σ H x v vl vu lo hi sl Q I rx hs pl pu h
  obtain ⟨M, ι, p, m, rp, post⟩ := h
  unfold slcP at post
  split at post
  · cases rp with
    | tup h1 h2 h3 =>
      refine sl_tupA pins s σ H _ v vl vu lo hi sl Q I rx hs pl pu ⟨_, _, rfl, hK ▸ h1.sq, fun hw => ?_, fun _ p hp => ?_⟩
      · have e := h3.length
        rw [← e] at hw
        have e2 : cutP _ lo hi = _ := sIx_whole (n := 0) _ hw
        rw [e2] at post
        exact post.now m (.tup h1 h2 h3)
      · exact post.tup m (Nat.le_trans (cutP_len _ _ _) h2) (h3.cut lo hi) hp
  · cases rp with
    | lst h1 h2 h3 => exact sl_list pins s σ H _ v vl vu lo hi sl Q I rx hs pl pu ⟨_, _, rfl, hK ▸ h1.sq, fun p hp => post.lst m (Nat.le_trans (cutP_len _ _ _) h2) (h3.cut lo hi) hp⟩
  · cases rp with
    | scr h0 h1 =>
      rename_i ns a
      obtain ⟨its, rv, _, hz⟩ := I.list (hK ▸ h1.sq)
      exact sl_list pins s σ H _ v vl vu lo hi sl Q I rx hs pl pu ⟨_, _, rfl, hK ▸ h1.sq, fun p hp => post.lst m (Nat.le_trans (cutP_len _ _ _) (by simpa using hz)) ((Rps.ints ns).cut lo hi) hp⟩
  · split at post
    · rename_i n _ xs hx
      obtain ⟨a, vs, rfl, h1, h2, h3, h4, h5⟩ := m.lstAt hx rp
      exact sl_list pins s σ H _ v vl vu lo hi sl Q I rx hs pl pu ⟨_, _, rfl, SqL.of h3, fun p hp => post.lst m (Nat.le_trans (cutP_len _ _ _) h4) (h5.cut lo hi) hp⟩
    · exact post.elim
  · rename_i z
    cases rp
    split at post
    · rename_i hz
      exact sl_str pins s σ H _ v vl vu lo hi sl Q I rx hs pl pu ⟨z, rfl, hz, post.now m (.str _)⟩
    · exact post.elim
  · exact post.elim

/-! ### built-in functions -/
/-- the built-in functions that are called by name -/
inductive BI where
  | len | abs | int | sum | all | any | tuple | list | min | max | repr | isinst
  deriving DecidableEq
def intsOf : List PV → Option (List Int)
  | [] => some []
  | .int i :: r => match intsOf r with
    | some ns => some (i :: ns)
    | none => none
  | _ => none
def blsOf : List PV → Option (List Bool)
  | [] => some []
  | .bl b :: r => match blsOf r with
    | some bs => some (b :: bs)
    | none => none
  | _ => none
/-- a list's items -/
def itemsL (M : Store) : PV → Option (List PV)
  | .lst xs => some xs
  | .ref n => lstAt M n
  | _ => none
def maxI : List Int → Int
  | [] => 0
  | x :: xs => xs.foldl (fun m y => if m < y then y else m) x
def minI : List Int → Int
  | [] => 0
  | x :: xs => xs.foldl (fun m y => if y < m then y else m) x
def tyNm (M : Store) : PV → Option String
  | .non => some "NoneType"
  | .bl _ => some "bool"
  | .int _ => some "int"
  | .str _ => some "str"
  | .tup _ => some "tuple"
  | .lst _ => some "list"
  | .ref n => match lstAt M n with
    | some _ => some "list"
    | none => none
  | _ => none
def lenP (M : Store) : PV → Option PV
  | .tup xs => some (.int xs.length)
  | .lst xs => some (.int xs.length)
  | .str s => if s.length ≤ sizeLine then some (.int s.length) else none
  | .ref n => match lstAt M n with
    | some xs => some (.int xs.length)
    | none => none
  | _ => none
def reprP (M : Store) (p : PV) : Option PV := match datM M p with
  | some d => if (d.showable && !d.hasDict && decide (d.depth ≤ 64) && decide (d.shown.length ≤ sizeLine)) = true then some (.str d.shown) else none
  | none => none
def lenF : PN := fun M ps => match ps with
  | [p] => lenP M p
  | _ => none
def absF : PN := fun _ ps => match ps with
  | [.int i] => some (.int (if i < 0 then -i else i))
  | _ => none
def intF : PN := fun _ ps => match ps with
  | [.int i] => some (.int i)
  | [.bl b] => some (.int (if b then 1 else 0))
  | _ => none
def sumF : PN := fun M ps => match ps with
  | [p] => match itemsL M p with
    | some xs => (intsOf xs).map fun ns => .int ns.sum
    | none => none
  | _ => none
def allF : PN := fun M ps => match ps with
  | [p] => match itemsL M p with
    | some xs => (blsOf xs).map fun bs => .bl (bs.all id)
    | none => none
  | _ => none
def anyF : PN := fun M ps => match ps with
  | [p] => match itemsL M p with
    | some xs => (blsOf xs).map fun bs => .bl (bs.any id)
    | none => none
  | _ => none
def tupleF : PN := fun M ps => match ps with
  | [.tup xs] => some (.tup xs)
  | [p] => (itemsL M p).map .tup
  | _ => none
def listF : PN := fun M ps => match ps with
  | [.tup xs] => some (.lst xs)
  | [p] => (itemsL M p).map .lst
  | _ => none
mutual
/-- back from data -/
def undat : PyData → Option PV
  | .none => some .non
  | .bool b => some (.bl b)
  | .int i => some (.int i)
  | .str s => some (.str s)
  | .list xs => (undats xs).map .lst
  | .tuple xs => (undats xs).map .tup
  | .dict _ => none
def undats : List PyData → Option (List PV)
  | [] => some []
  | x :: xs => match undat x, undats xs with
    | some p, some ps => some (p :: ps)
    | _, _ => none
end
def notNone : PyData → Bool
  | .none => false
  | _ => true
def okMM (l : List PyData) : Bool := l.all (fun x => (l.all fun y => PySem.W.alike x y) && x.canLay0 && notNone x) && decide (PyData.depthAll l ≤ 32)
def minDL (xs : List PV) : Option PV := match dats xs with
  | some (d :: ds) => if okMM (d :: ds) = true then undat (PySem.W.minD d ds) else none
  | _ => none
def maxDL (xs : List PV) : Option PV := match dats xs with
  | some (d :: ds) => if okMM (d :: ds) = true then undat (PySem.W.maxD d ds) else none
  | _ => none
def minL (M : Store) (p : PV) : Option PV := match itemsL M p with
  | some xs => match intsOf xs with
    | some (n :: ns) => some (.int (minI (n :: ns)))
    | some [] => none
    | none => minDL xs
  | none => none
def maxL (M : Store) (p : PV) : Option PV := match itemsL M p with
  | some xs => match intsOf xs with
    | some (n :: ns) => some (.int (maxI (n :: ns)))
    | some [] => none
    | none => maxDL xs
  | none => none
def minF : PN := fun M ps => match ps with
  | [.int i, .int j] => some (.int (if j < i then j else i))
  | [p] => minL M p
  | _ => none
def maxF : PN := fun M ps => match ps with
  | [.int i, .int j] => some (.int (if i < j then j else i))
  | [p] => maxL M p
  | _ => none
def reprF : PN := fun M ps => match ps with
  | [p] => reprP M p
  | _ => none
def isinstF : PN := fun M ps => match ps with
  | [p, .ty n] => match tyNm M p with
    | some t => (kitB t n).map .bl
    | none => none
  | _ => none
def biP : BI → PN
  | .len => lenF
  | .abs => absF
  | .int => intF
  | .sum => sumF
  | .all => allF
  | .any => anyF
  | .tuple => tupleF
  | .list => listF
  | .min => minF
  | .max => maxF
  | .repr => reprF
  | .isinst => isinstF
def biNm : BI → Str
  | .len => "len" | .abs => "abs" | .int => "int" | .sum => "sum" | .all => "all" | .any => "any" | .tuple => "tuple" | .list => "list" | .min => "min" | .max => "max" | .repr => "repr" | .isinst => "isinstance"
def biV : BI → Value
  | .len => .builtin "len" | .abs => .builtin "abs" | .int => .type "int" | .sum => .builtin "sum" | .all => .builtin "all" | .any => .builtin "any" | .tuple => .type "tuple" | .list => .type "list"
  | .min => .builtin "min" | .max => .builtin "max" | .repr => .builtin "repr" | .isinst => .builtin "isinstance"
end
end DI
set_option maxHeartbeats 2000000
/-! # DI: the built-in functions keep their words -/
namespace DI
open PySem PySem.Spec L2
section
variable {X : Cx} {G : Gd} {ι : List Addr} {H : Hp} {O : Addr → Prop}
theorem Rps.intsOf : ∀ {ps : List PV} {vs : List V} {ns : List Int}, Rps G ι H O ps vs → DI.intsOf ps = some ns → vs = ns.map V.int
  | [], _, _, r, e => by cases r; cases e; rfl
  | p :: ps, _, ns, r, e => by
    cases r with
    | cons r1 r2 =>
      cases p with
      | int i =>
        unfold DI.intsOf at e
        split at e
        · rename_i ms hm
          cases e
          cases r1
          rw [r2.intsOf hm]
          rfl
        · cases e
      | _ => unfold DI.intsOf at e; cases e
theorem Rps.blsOf : ∀ {ps : List PV} {vs : List V} {ns : List Bool}, Rps G ι H O ps vs → DI.blsOf ps = some ns → vs = ns.map V.bl
  | [], _, _, r, e => by cases r; cases e; rfl
  | p :: ps, _, ns, r, e => by
    cases r with
    | cons r1 r2 =>
      cases p with
      | bl i =>
        unfold DI.blsOf at e
        split at e
        · rename_i ms hm
          cases e
          cases r1
          rw [r2.blsOf hm]
          rfl
        · cases e
      | _ => unfold DI.blsOf at e; cases e
theorem Rps.one {p : PV} {vs : List V} (r : Rps G ι H O [p] vs) : ∃ v, vs = [v] ∧ Rp G ι H O p v := by
  cases r with
  | cons r1 r2 => cases r2; exact ⟨_, rfl, r1⟩
theorem Rps.two {p q : PV} {vs : List V} (r : Rps G ι H O [p, q] vs) : ∃ v w, vs = [v, w] ∧ Rp G ι H O p v ∧ Rp G ι H O q w := by
  cases r with
  | cons r1 r2 =>
    obtain ⟨w, rfl, r3⟩ := r2.one
    exact ⟨_, w, rfl, r1, r3⟩
theorem MRel.itemsL {M : Store} (m : MRel G M ι H) {p : PV} {xs : List PV} {v : V} (h : DI.itemsL M p = some xs) (r : Rp G ι H (Own M ι) p v) : ∃ a vs, v = .ref a ∧ H a = some (.lst vs) ∧ xs.length ≤ sizeLine ∧ Rps G ι H (Own M ι) xs vs := by
  unfold DI.itemsL at h
  split at h
  · cases h
    cases r with
    | lst h1 h2 h3 => exact ⟨_, _, rfl, h1.1, h2, h3⟩
  · obtain ⟨a, vs, e, _, _, h3, h4, h5⟩ := m.lstAt h r
    exact ⟨a, vs, e, h3, h4, h5⟩
  · cases h
theorem minI_mem : ∀ (xs : List Int) (x : Int), (xs.foldl (fun m y => if y < m then y else m) x ∈ x :: xs) ∧ ∀ y ∈ x :: xs, xs.foldl (fun m y => if y < m then y else m) x ≤ y
  | [], x => by simp
  | z :: xs, x => by
    obtain ⟨h1, h2⟩ := minI_mem xs (if z < x then z else x)
    have hb := h2 _ List.mem_cons_self
    have hz : (if z < x then z else x) ≤ z ∧ (if z < x then z else x) ≤ x ∧ ((if z < x then z else x) = z ∨ (if z < x then z else x) = x) := by
      split <;> omega
    show xs.foldl _ (if z < x then z else x) ∈ _ ∧ ∀ y ∈ _, xs.foldl _ (if z < x then z else x) ≤ y
    generalize (if z < x then z else x) = w at h1 h2 hb hz ⊢
    refine ⟨?_, fun y hy => ?_⟩
    · rcases List.mem_cons.mp h1 with e | e
      · rw [e]
        rcases hz.2.2 with e | e <;> rw [e] <;> simp
      · exact List.mem_cons_of_mem _ (List.mem_cons_of_mem _ e)
    · rcases List.mem_cons.mp hy with e | hy
      · omega
      · rcases List.mem_cons.mp hy with e | hy
        · omega
        · exact h2 y (List.mem_cons_of_mem _ hy)
theorem maxI_mem : ∀ (xs : List Int) (x : Int), (xs.foldl (fun m y => if m < y then y else m) x ∈ x :: xs) ∧ ∀ y ∈ x :: xs, y ≤ xs.foldl (fun m y => if m < y then y else m) x
  | [], x => by simp
  | z :: xs, x => by
    obtain ⟨h1, h2⟩ := maxI_mem xs (if x < z then z else x)
    have hb := h2 _ List.mem_cons_self
    have hz : z ≤ (if x < z then z else x) ∧ x ≤ (if x < z then z else x) ∧ ((if x < z then z else x) = z ∨ (if x < z then z else x) = x) := by
      split <;> omega
    show xs.foldl _ (if x < z then z else x) ∈ _ ∧ ∀ y ∈ _, y ≤ xs.foldl _ (if x < z then z else x)
    generalize (if x < z then z else x) = w at h1 h2 hb hz ⊢
    refine ⟨?_, fun y hy => ?_⟩
    · rcases List.mem_cons.mp h1 with e | e
      · rw [e]
        rcases hz.2.2 with e | e <;> rw [e] <;> simp
      · exact List.mem_cons_of_mem _ (List.mem_cons_of_mem _ e)
    · rcases List.mem_cons.mp hy with e | hy
      · omega
      · rcases List.mem_cons.mp hy with e | hy
        · omega
        · exact h2 y (List.mem_cons_of_mem _ hy)
theorem MRel.tyX {M : Store} (m : MRel G M ι H) {p : PV} {v : V} {t : String} (r : Rp G ι H (Own M ι) p v) (h : tyNm M p = some t) : TyX G.K H v (.type t) := by
  cases p with
  | non => cases h; cases r; exact .base .non
  | bl b => cases h; cases r; exact .base (.bl b)
  | int i => cases h; cases r; exact .base (.int i)
  | str s => cases h; cases r; exact .base (.str s)
  | tup ps =>
    cases h
    cases r with
    | tup h1 h2 h3 =>
      rcases h1 with ⟨h1 | ⟨o, h1⟩, _⟩ | ⟨o, its, n, k1, k2, _⟩
      · exact .base (.tup h1)
      · exact .fTuple h1
      · exact .kTuple k1 k2
  | lst ps =>
    cases h
    cases r with
    | lst h1 h2 h3 => exact .base (.lst h1.1)
  | ref n =>
    unfold tyNm at h
    dsimp only at h
    split at h
    · rename_i xs hx
      cases h
      obtain ⟨a, vs, e, _, _, h3, h4, h5⟩ := m.lstAt hx r
      subst e
      exact .base (.lst h3)
    · cases h
  | _ => cases h
theorem pr_len (hK : X.K = G.K) : CallR X (.builtin "len") (LRN G lenF) := by
  intro pins s σ H xs us Q I r h
  obtain ⟨M, ι, ps, m, rs, post⟩ := h
  unfold lenF at post
  split at post
  · obtain ⟨v, rfl, rp⟩ := rs.one
    unfold lenP at post
    split at post
    · cases rp with
      | tup h1 h2 h3 =>
        have e := h3.length
        rw [e] at post
        exact call_len_seq pins s σ H _ us Q I r ⟨_, _, rfl, .inr (hK ▸ h1.sq), post.now m (.int _)⟩
    · cases rp with
      | lst h1 h2 h3 =>
        have e := h3.length
        rw [e] at post
        exact call_len_seq pins s σ H _ us Q I r ⟨_, _, rfl, .inl (hK ▸ h1.sq), post.now m (.int _)⟩
    · cases rp
      split at post
      · rename_i hz
        exact call_len_str pins s σ H _ us Q I r ⟨_, rfl, hz, post.now m (.int _)⟩
      · exact post.elim
    · split at post
      · rename_i hx
        obtain ⟨a, vs, rfl, h1, h2, h3, h4, h5⟩ := m.lstAt hx rp
        have e := h5.length
        rw [e] at post
        exact call_len_seq pins s σ H _ us Q I r ⟨_, _, rfl, .inl (SqL.of h3), post.now m (.int _)⟩
      · exact post.elim
    · exact post.elim
  · exact post.elim
theorem pr_abs : CallR X (.builtin "abs") (LRN G absF) := by
  intro pins s σ H xs us Q I r h
  obtain ⟨M, ι, ps, m, rs, post⟩ := h
  unfold absF at post
  split at post
  · obtain ⟨v, rfl, rp⟩ := rs.one
    cases rp
    exact call_abs pins s σ H _ us Q I r ⟨_, rfl, post.now m (.int _)⟩
  · exact post.elim
theorem pr_intF : CallR X (.type "int") (LRN G intF) := by
  intro pins s σ H xs us Q I r h
  obtain ⟨M, ι, ps, m, rs, post⟩ := h
  unfold intF at post
  split at post
  · obtain ⟨v, rfl, rp⟩ := rs.one
    cases rp
    exact call_int1 pins s σ H _ us Q I r (.inl ⟨_, rfl, post.now m (.int _)⟩)
  · obtain ⟨v, rfl, rp⟩ := rs.one
    cases rp
    exact call_int1 pins s σ H _ us Q I r (.inr ⟨_, rfl, post.now m (.int _)⟩)
  · exact post.elim
theorem pr_sum (hc : X.calm = true) : CallR X (.builtin "sum") (LRN G sumF) := by
  intro pins s σ H xs us Q I r h
  obtain ⟨M, ι, ps, m, rs, post⟩ := h
  unfold sumF at post
  split at post
  · obtain ⟨v, rfl, rp⟩ := rs.one
    split at post
    · rename_i ys hy
      obtain ⟨a, vs, rfl, h3, h4, h5⟩ := m.itemsL hy rp
      cases e : intsOf ys with
      | none => rw [e] at post; exact post.elim
      | some ns =>
        rw [e] at post
        have e2 := h5.intsOf e
        subst e2
        exact cr_sum hc pins s σ H _ us Q I r ⟨a, ns, rfl, SqL.of h3, post.now m (.int _)⟩
    · exact post.elim
  · exact post.elim
theorem pr_all (hc : X.calm = true) : CallR X (.builtin "all") (LRN G allF) := by
  intro pins s σ H xs us Q I r h
  obtain ⟨M, ι, ps, m, rs, post⟩ := h
  unfold allF at post
  split at post
  · obtain ⟨v, rfl, rp⟩ := rs.one
    split at post
    · rename_i ys hy
      obtain ⟨a, vs, rfl, h3, h4, h5⟩ := m.itemsL hy rp
      cases e : blsOf ys with
      | none => rw [e] at post; exact post.elim
      | some ns =>
        rw [e] at post
        have e2 := h5.blsOf e
        subst e2
        exact cr_all hc pins s σ H _ us Q I r ⟨a, ns, rfl, SqL.of h3, post.now m (.bl _)⟩
    · exact post.elim
  · exact post.elim
theorem pr_any (hc : X.calm = true) : CallR X (.builtin "any") (LRN G anyF) := by
  intro pins s σ H xs us Q I r h
  obtain ⟨M, ι, ps, m, rs, post⟩ := h
  unfold anyF at post
  split at post
  · obtain ⟨v, rfl, rp⟩ := rs.one
    split at post
    · rename_i ys hy
      obtain ⟨a, vs, rfl, h3, h4, h5⟩ := m.itemsL hy rp
      cases e : blsOf ys with
      | none => rw [e] at post; exact post.elim
      | some ns =>
        rw [e] at post
        have e2 := h5.blsOf e
        subst e2
        exact cr_any hc pins s σ H _ us Q I r ⟨a, ns, rfl, SqL.of h3, post.now m (.bl _)⟩
    · exact post.elim
  · exact post.elim
theorem pr_tuple (hK : X.K = G.K) : CallR X (.type "tuple") (LRN G tupleF) := by
  intro pins s σ H xs us Q I r h
  obtain ⟨M, ι, ps, m, rs, post⟩ := h
  unfold tupleF at post
  split at post
  · obtain ⟨v, rfl, rp⟩ := rs.one
    cases rp with
    | tup h1 h2 h3 => exact call_tuple_of pins s σ H _ us Q I r ⟨_, _, rfl, .inr ⟨hK ▸ h1.sq, post.now m (.tup h1 h2 h3)⟩⟩
  · rename_i p _
    obtain ⟨v, rfl, rp⟩ := rs.one
    cases e : DI.itemsL M p with
    | none => rw [e] at post; exact post.elim
    | some ys =>
      rw [e] at post
      obtain ⟨a, vs, rfl, h3, h4, h5⟩ := m.itemsL e rp
      exact call_tuple_of pins s σ H _ us Q I r ⟨_, _, rfl, .inl ⟨SqL.of h3, fun l hl => post.tup m h4 h5 hl⟩⟩
  · exact post.elim
theorem pr_list (hK : X.K = G.K) : CallR X (.type "list") (LRN G listF) := by
  intro pins s σ H xs us Q I r h
  obtain ⟨M, ι, ps, m, rs, post⟩ := h
  unfold listF at post
  split at post
  · obtain ⟨v, rfl, rp⟩ := rs.one
    cases rp with
    | tup h1 h2 h3 => exact call_list_of pins s σ H _ us Q I r ⟨_, _, rfl, .inr (hK ▸ h1.sq), fun l hl => post.lst m h2 h3 hl⟩
  · rename_i p _
    obtain ⟨v, rfl, rp⟩ := rs.one
    cases e : DI.itemsL M p with
    | none => rw [e] at post; exact post.elim
    | some ys =>
      rw [e] at post
      obtain ⟨a, vs, rfl, h3, h4, h5⟩ := m.itemsL e rp
      exact call_list_of pins s σ H _ us Q I r ⟨_, _, rfl, .inl (SqL.of h3), fun l hl => post.lst m h4 h5 hl⟩
  · exact post.elim
theorem min_eq {n m : Int} {ns : List Int} (h1 : m ∈ n :: ns) (h2 : ∀ y ∈ n :: ns, m ≤ y) : minI (n :: ns) = m := by
  obtain ⟨a, b⟩ := minI_mem ns n
  have x := b m h1
  have y := h2 _ a
  show ns.foldl _ n = m
  omega
theorem max_eq {n m : Int} {ns : List Int} (h1 : m ∈ n :: ns) (h2 : ∀ y ∈ n :: ns, y ≤ m) : maxI (n :: ns) = m := by
  obtain ⟨a, b⟩ := maxI_mem ns n
  have x := b m h1
  have y := h2 _ a
  show ns.foldl _ n = m
  omega
mutual
theorem undat_dat : ∀ (p : PV) (d : PyData), dat p = some d → undat d = some p
  | .non, d, e => by unfold dat at e; cases e; simp only [undat]
  | .bl b, d, e => by unfold dat at e; cases e; simp only [undat]
  | .int b, d, e => by unfold dat at e; cases e; simp only [undat]
  | .str b, d, e => by unfold dat at e; cases e; simp only [undat]
  | .tup ps, d, e => by
    unfold dat at e
    cases e2 : dats ps with
    | none => rw [e2] at e; cases e
    | some ds => rw [e2] at e; cases e; simp only [undat, undats_dats ps ds e2]; rfl
  | .lst ps, d, e => by
    unfold dat at e
    cases e2 : dats ps with
    | none => rw [e2] at e; cases e
    | some ds => rw [e2] at e; cases e; simp only [undat, undats_dats ps ds e2]; rfl
  | .ref _, d, e => by unfold dat at e; cases e
  | .fn _, d, e => by unfold dat at e; cases e
  | .ty _, d, e => by unfold dat at e; cases e
  | .scr _, d, e => by unfold dat at e; cases e
theorem undats_dats : ∀ (ps : List PV) (ds : List PyData), dats ps = some ds → undats ds = some ps
  | [], ds, e => by unfold dats at e; cases e; simp only [undats]
  | p :: ps, ds, e => by
    unfold dats at e
    cases e1 : dat p with
    | none => rw [e1] at e; cases e
    | some d =>
      cases e2 : dats ps with
      | none => rw [e1, e2] at e; cases e
      | some ds' =>
        rw [e1, e2] at e
        cases e
        simp only [undats, undat_dat p d e1, undats_dats ps ds' e2]
end
theorem dats_get : ∀ {ps : List PV} {ds : List PyData} {i : Nat} {p : PV}, dats ps = some ds → ps[i]? = some p → ∃ d, ds[i]? = some d ∧ dat p = some d
  | [], _, _, _, _, h => by simp at h
  | q :: ps, ds, i, p, e, h => by
    unfold dats at e
    cases e1 : dat q with
    | none => rw [e1] at e; cases e
    | some d =>
      cases e2 : dats ps with
      | none => rw [e1, e2] at e; cases e
      | some ds' =>
        rw [e1, e2] at e
        cases e
        cases i with
        | zero => simp at h; subst h; exact ⟨d, rfl, e1⟩
        | succ i =>
          obtain ⟨d', h1, h2⟩ := dats_get (i := i) (p := p) e2 (by simpa using h)
          exact ⟨d', by simpa using h1, h2⟩
theorem okMM_ok {l : List PyData} (h : okMM l = true) : PySem.W.AlikeAll l ∧ (∀ d ∈ l, d.canLay0 = true) ∧ PyData.depthAll l ≤ 32 := by
  unfold okMM at h
  simp only [Bool.and_eq_true, List.all_eq_true, decide_eq_true_eq] at h
  exact ⟨⟨fun x hx y hy => (h.1 x hx).1.1 y hy, fun x hx e => by subst e; exact absurd (h.1 _ hx).2 Bool.false_ne_true⟩, fun x hx => (h.1 x hx).1.2, h.2⟩
/-- the item that the value is -/
theorem mm_item {X : Cx} {G : Gd} {M : Store} {ι : List Addr} {H : Hp} {pins : List (Addr × Obj)} {σ : St} {s : Shared} {ys : List PV} {vs : List V} {its : List Value} {ds : List PyData} {m : PyData} {i : Nat} {u : Value} {h' : Heap} {bs : List Addr} {Q : VK}
    (hK : X.K = G.K) (mr : MRel G M ι H) (I : Inv X pins σ H s) (h5 : Rps G ι H (Own M ι) ys vs) (rv : Vals vs its) (e : dats ys = some ds) (hcl : ∀ d ∈ ds, d.canLay0 = true) (hi : its.toArray[i]? = some u) (hr : Reads h' u m bs) (hk : ∀ b o, s.heap.get? b = some o → h'.get? b = some o)
    {tk : Nat} (post : PostV G M ι H Q (undat m)) : EP X pins σ Q u { s with heap := h', toks := tk } := by
  have hlt : i < vs.length := by
    have := (Array.getElem?_eq_some_iff.mp hi).1
    have l := rv.length
    simp at this
    omega
  obtain ⟨u', e1, e2⟩ := rv.get (List.getElem?_eq_getElem hlt)
  have e3 : some u = some u' := by rw [← hi]; simpa using e1
  cases e3
  obtain ⟨p, hp, rp⟩ := h5.getV (List.getElem?_eq_getElem hlt)
  obtain ⟨d, hd, hpd⟩ := dats_get e hp
  obtain ⟨as, r1⟩ := Dp.reads I d _ u (hK ▸ Rp.dp p _ d rp hpd) e2
  have r2 : Reads h' u d as := PySem.W.reads_keeps hk r1
  have hdm : d = m := PySem.SeqAt.Reads.unique d m u as bs (hcl d (List.mem_of_getElem? hd)) r2 hr
  subst hdm
  rw [undat_dat p d hpd] at post
  exact ⟨_, H, I.kept hk, e2, post.now mr rp⟩
theorem pr_min (hK : X.K = G.K) (hu : X.A.units + 66 < cLine) (hc : X.calm = true) : CallR X (.builtin "min") (LRN G minF) := by
  intro pins s σ H xs us Q I r h
  obtain ⟨M, ι, ps, m, rs, post⟩ := h
  unfold minF at post
  split at post
  · obtain ⟨v, w, rfl, rp, rq⟩ := rs.two
    cases rp
    cases rq
    exact call_min2 hc pins s σ H _ us Q I r ⟨_, _, rfl, post.now m (.int _)⟩
  · obtain ⟨v, rfl, rp⟩ := rs.one
    unfold minL at post
    split at post
    · rename_i ys hy
      obtain ⟨a, vs, rfl, h3, h4, h5⟩ := m.itemsL hy rp
      split at post
      · rename_i n ns e
        have e2 := h5.intsOf e
        subst e2
        exact cr_min hc pins s σ H _ us Q I r ⟨a, n :: ns, rfl, SqL.of h3, Nat.succ_pos _, fun k hk1 hk2 => by
          rw [min_eq hk1 hk2] at post
          exact post.now m (.int _)⟩
      · exact post.elim
      · unfold minDL at post
        split at post
        · rename_i d ds e
          split at post
          · rename_i hok
            obtain ⟨h6, h7, h8⟩ := okMM_ok hok
            obtain ⟨its, rv, pl, hz⟩ := I.list (SqL.of h3)
            obtain ⟨as, hr⟩ := Dp.readsAll I _ vs its (hK ▸ Rps.dp ys vs _ h5 e) rv
            cases r with
            | cons r rr =>
              cases rr
              cases r
              exact PySem.W.min_list_data (I.ok.hd hc) pl.isList hr h6 (by omega) fun i u h' tk bs hi hrd hk => mm_item hK m I h5 rv e h7 hi hrd hk post
          · exact post.elim
        · exact post.elim
    · exact post.elim
  · exact post.elim
theorem pr_max (hK : X.K = G.K) (hu : X.A.units + 66 < cLine) (hc : X.calm = true) : CallR X (.builtin "max") (LRN G maxF) := by
  intro pins s σ H xs us Q I r h
  obtain ⟨M, ι, ps, m, rs, post⟩ := h
  unfold maxF at post
  split at post
  · obtain ⟨v, w, rfl, rp, rq⟩ := rs.two
    cases rp
    cases rq
    exact call_max2 hc pins s σ H _ us Q I r ⟨_, _, rfl, post.now m (.int _)⟩
  · obtain ⟨v, rfl, rp⟩ := rs.one
    unfold maxL at post
    split at post
    · rename_i ys hy
      obtain ⟨a, vs, rfl, h3, h4, h5⟩ := m.itemsL hy rp
      split at post
      · rename_i n ns e
        have e2 := h5.intsOf e
        subst e2
        exact cr_max hc pins s σ H _ us Q I r ⟨a, n :: ns, rfl, SqL.of h3, Nat.succ_pos _, fun k hk1 hk2 => by
          rw [max_eq hk1 hk2] at post
          exact post.now m (.int _)⟩
      · exact post.elim
      · unfold maxDL at post
        split at post
        · rename_i d ds e
          split at post
          · rename_i hok
            obtain ⟨h6, h7, h8⟩ := okMM_ok hok
            obtain ⟨its, rv, pl, hz⟩ := I.list (SqL.of h3)
            obtain ⟨as, hr⟩ := Dp.readsAll I _ vs its (hK ▸ Rps.dp ys vs _ h5 e) rv
            cases r with
            | cons r rr =>
              cases rr
              cases r
              exact PySem.W.max_list_data (I.ok.hd hc) pl.isList hr h6 (by omega) fun i u h' tk bs hi hrd hk => mm_item hK m I h5 rv e h7 hi hrd hk post
          · exact post.elim
        · exact post.elim
    · exact post.elim
  · exact post.elim
theorem pr_isinst (hK : X.K = G.K) : CallR X (.builtin "isinstance") (LRN G isinstF) := by
  intro pins s σ H xs us Q I r h
  obtain ⟨M, ι, ps, m, rs, post⟩ := h
  unfold isinstF at post
  split at post
  · rename_i p n
    obtain ⟨v, w, rfl, rp, rq⟩ := rs.two
    cases rq
    split at post
    · rename_i t ht
      cases e : kitB t n with
      | none => rw [e] at post; exact post.elim
      | some b =>
        rw [e] at post
        exact call_isi pins s σ H _ us Q I r ⟨v, .ty n, .type t, .type n, b, rfl, .ty n, hK ▸ m.tyX rp ht, kit_ty e, post.now m (.bl _)⟩
    · exact post.elim
  · exact post.elim
theorem pr_repr (hK : X.K = G.K) (hg : X.A.guards = some []) (hu : X.A.units + 66 < cLine) : CallR X (.builtin "repr") (LRN G reprF) := by
  intro pins s σ H xs us Q I r h
  obtain ⟨M, ι, ps, m, rs, post⟩ := h
  unfold reprF at post
  split at post
  · rename_i p
    obtain ⟨v, rfl, rp⟩ := rs.one
    obtain ⟨u, rfl, ru⟩ := vals1 r
    unfold reprP at post
    split at post
    · rename_i d hd
      split at post
      · rename_i hs
        simp only [Bool.and_eq_true, decide_eq_true_eq, Bool.not_eq_true'] at hs
        obtain ⟨⟨⟨h1, h2⟩, h3⟩, h4⟩ := hs
        have dp : Dp X.K H v d := hK ▸ m.dp rp hd
        have hq : Q (.str d.shown) H := post.now m (.str _)
        cases d with
        | none =>
          cases dp
          cases ru
          simp only [PyData.shown_none] at hq
          exact PySem.P.repr_of_none ⟨.str _, H, I.tok _, ⟨_, rfl⟩, hq⟩
        | bool b =>
          cases dp
          cases ru
          simp only [PyData.shown_bool] at hq
          exact PySem.P.repr_of_bool ⟨.str _, H, I.tok _, ⟨_, rfl⟩, hq⟩
        | int i =>
          cases dp
          obtain ⟨t, rfl⟩ := ru
          simp only [PyData.shown_int] at hq
          exact PySem.P.repr_of_int (by simpa [PyData.showable] using h1) ⟨.str _, H, I.tok _, ⟨_, rfl⟩, hq⟩
        | str z =>
          cases dp
          obtain ⟨t, rfl⟩ := ru
          simp only [PyData.shown_str] at hq h4
          exact PySem.P.repr_of_str ⟨.str _, H, I.tok _, ⟨_, rfl⟩, hq⟩ h4
        | list ds =>
          obtain ⟨as, hr⟩ := Dp.reads I _ v u dp ru
          cases dp
          cases ru
          exact repr_of_reads' hr h1 (PyData.noDict_hsm h2) hg (by omega) (fun _ _ e => e) (fun h' u tk hk => ⟨.str _, H, I.kept hk, ⟨_, rfl⟩, hq⟩) h4
        | tuple ds =>
          obtain ⟨as, hr⟩ := Dp.reads I _ v u dp ru
          cases dp
          cases ru
          exact repr_of_reads' hr h1 (PyData.noDict_hsm h2) hg (by omega) (fun _ _ e => e) (fun h' u tk hk => ⟨.str _, H, I.kept hk, ⟨_, rfl⟩, hq⟩) h4
        | dict _ => cases dp
      · exact post.elim
    · exact post.elim
  · exact post.elim
end
end DI
set_option maxHeartbeats 2000000
/-! # DI: code and what it gives -/
namespace DI
open PySem PySem.Spec L2

/-- a target -/
inductive CT where
  | name (i : Nat)
  | tup (ts : List CT)
mutual
def asg : CT → PV → Sl → Option Sl
  | .name i, p, sp => if i < sp.length then some (sp.set i (some p)) else none
  | .tup ts, p, sp => match p with
    | .tup ps => asgs ts ps sp
    | _ => none
def asgs : List CT → List PV → Sl → Option Sl
  | [], [], sp => some sp
  | t :: ts, p :: ps, sp => match asg t p sp with
    | some sp1 => asgs ts ps sp1
    | none => none
  | _, _, _ => none
end
mutual
def CT.slots : CT → List Nat
  | .name i => [i]
  | .tup ts => CT.slotss ts
def CT.slotss : List CT → List Nat
  | [] => []
  | t :: ts => t.slots ++ CT.slotss ts
end

/-- a built-in type's methods -/
inductive BM where
  | append | pop | extend
  deriving DecidableEq

mutual
inductive CE where
  | var (i : Nat)
  | non | bl (b : Bool) | int (i : Int) | str (s : Str)
  | glob (k : Nat) | fn (f : Nat) | bty (n : String)
  | neg (a : CE) | notE (a : CE)
  | bin (op : Operator) (a b : CE)
  | cmp (op : CmpOp) (a b : CE)
  | cmp2 (op op2 : CmpOp) (a b c : CE)
  | andE (es : CEs) | orE (es : CEs)
  | ife (c a b : CE)
  | tup (es : CEs) | lst (es : CEs) | lstR (es : CEs)
  | idx (a i : CE)
  | slc (a : CE) (lo hi : Option CE)
  | call (f : Nat) (es : CEs)
  | callV (i : Nat) (es : CEs)
  | callB (b : BI) (es : CEs)
  | meth (m : BM) (o : CE) (es : CEs)
  | frz (i : Nat)
  | sset (a : CE)
  | comp (own : List (Str × Nat)) (tg : CT) (it : CI) (cd : Option CE) (elt : CE)
inductive CEs where
  | nil
  | cons (e : CE) (r : CEs)
  | star (e : CE) (r : CEs)
inductive CI where
  | seq (e : CE)
  | rng1 (a : CE) | rng2 (a b : CE) | rng3 (a b c : CE)
  | enum (e : CE) | zip (a b : CE)
end

/-- what is walked, and which lists must stand still meanwhile -/
structure ItV where
  items : List PV
  gd : List (Nat × List PV)
def gdOk (M : Store) (gd : List (Nat × List PV)) : Prop := ∀ p ∈ gd, lstAt M p.1 = some p.2
theorem gdOk_nil (M : Store) : gdOk M [] ↔ True := by simp [gdOk]
open Classical in
noncomputable def gdIf {α : Type} (M : Store) (gd : List (Nat × List PV)) (r : Res α) : Res α := if gdOk M gd then r else .bad
theorem gdIf_nil {α : Type} (M : Store) (r : Res α) : gdIf M [] r = r := by
  unfold gdIf
  rw [if_pos ((gdOk_nil M).mpr trivial)]
/-- the items of a value, one by one -/
def seqIt (M : Store) : PV → Option ItV
  | .tup xs => some ⟨xs, []⟩
  | .lst xs => some ⟨xs, []⟩
  | .ref n => match lstAt M n with
    | some xs => some ⟨xs, [(n, xs)]⟩
    | none => none
  | .str s => if s.length ≤ sizeLine then some ⟨s.cps.toList.map fun c => .str ⟨#[c]⟩, []⟩ else none
  | _ => none
/-- lo, lo + c, .. (n of them) -/
def rngL (lo c : Int) (n : Nat) : List PV := (List.range n).map fun k => .int (lo + (k : Nat) * c)
def rngOk (i : Int) : Bool := decide (-(2 ^ 62) ≤ i) && decide (i < 2 ^ 62)
def rngIt (lo hi : Int) : Option ItV := if (rngOk lo && rngOk hi && decide ((hi - lo).toNat ≤ sizeLine)) = true then some ⟨rngL lo 1 (hi - lo).toNat, []⟩ else none
def rngIt3 (lo hi c : Int) : Option ItV :=
  if (rngOk lo && rngOk hi && decide (c = -1) && decide ((lo - hi).toNat ≤ sizeLine)) = true then some ⟨rngL lo (-1) (lo - hi).toNat, []⟩ else none
def enumL (xs : List PV) : List PV := xs.zipIdx.map fun (p, i) => .tup [.int (i : Nat), p]
def zipL (xs ys : List PV) : List PV := (xs.zip ys).map fun (p, q) => .tup [p, q]
def Res.ofO {α : Type} (o : Option α) (M : Store) : Res α := match o with
  | some a => .ok a M
  | none => .bad
/-- a block over items: what each turn yields -/
noncomputable def compR (gd : List (Nat × List PV)) (step : PV → Store → Res (Option PV)) : List PV → Store → Res (List PV)
  | [], M => gdIf M gd (.ok [] M)
  | x :: xs, M => gdIf M gd (match step x M with
    | .ok o M1 => match compR gd step xs M1 with
      | .ok ys M2 => .ok (o.toList ++ ys) M2
      | _ => .bad
    | _ => .bad)
def wipeP (sp : Sl) : List Nat → Sl
  | [] => sp
  | v :: vs => (wipeP sp vs).set v none
/-- methods of built-in types: the value, the store behind -/
def bmP (m : BM) (M : Store) (o : PV) (ps : List PV) : Option (PV × Store) := match m, o, ps with
  | .append, .ref n, [p] => match lstAt M n with
    | some xs => if xs.length < sizeLine then some (.non, M.set n (some (.lst (xs ++ [p])))) else none
    | none => none
  | _, _, _ => none
def tyM (M : Store) : PV → Bool
  | .ref n => (lstAt M n).isSome
  | _ => false
def bmR (m : BM) (M : Store) (o : PV) (ps : List PV) : Res PV := match bmP m M o ps with
  | some (r, M3) => .ok r M3
  | none => .bad
def andK (k : Store → Res PV) : PV → Store → Res PV
  | .bl true, M => k M
  | .bl false, M => .ok (.bl false) M
  | _, _ => .bad
def orK (k : Store → Res PV) : PV → Store → Res PV
  | .bl true, M => .ok (.bl true) M
  | .bl false, M => k M
  | _, _ => .bad
/-- texts of ints, each of d, in [0, b) -/
def intTups : List PV → Option (List (List Int))
  | [] => some []
  | .tup ps :: r => match intsOf ps, intTups r with
    | some k, some ks => some (k :: ks)
    | _, _ => none
  | _ => none
def codeI (B : Int) : List Int → Int := TS.code B
def insT (B : Int) (x : List Int) : List (List Int) → List (List Int)
  | [] => [x]
  | y :: r => if codeI B x < codeI B y then x :: y :: r else if codeI B x = codeI B y then y :: r else y :: insT B x r
def sortT (B : Int) : List (List Int) → List (List Int)
  | [] => []
  | x :: r => insT B x (sortT B r)
def bdB (B : Int) (d : Nat) (k : List Int) : Bool := decide (k.length = d) && k.all fun i => decide (0 ≤ i) && decide (i < B)
def srtB : Int := 1000
/-- sorted(set(xs)) of tuples of ints -/
def ssetP (M : Store) (p : PV) : Option PV := match itemsL M p with
  | some xs => match intTups xs with
    | some ks => let d := (ks.headD [0]).length
      if (decide (1 ≤ d) && decide (ks.length < 64) && ks.all (bdB srtB d)) = true then some (.lst ((sortT srtB ks).map fun k => .tup (k.map .int))) else none
    | none => none
  | none => none
/-- the tables: constants of the module, the defs' and the classes' names, built-in names that the module leaves alone -/
structure Tab where
  cst : List (Str × PV)
  fnm : List Str
  cnm : List (Str × List Str)
  free : List Str
  exm : List (Nat × Nat × Bool)
  ex0 : List Nat
abbrev Fns := Nat → List PV → Store → Res PV

section
variable (T : Tab) (Γ : Fns)
mutual
noncomputable def ev : CE → Ev PV
  | .var i => fun sp M => match sp[i]? with
    | some (some p) => .ok p M
    | _ => .bad
  | .non => fun _ M => .ok .non M
  | .bl b => fun _ M => .ok (.bl b) M
  | .int i => fun _ M => .ok (.int i) M
  | .str s => fun _ M => .ok (.str s) M
  | .glob k => fun _ M => match T.cst[k]? with
    | some (_, p) => .ok p M
    | none => .bad
  | .fn f => fun _ M => .ok (.fn f) M
  | .bty n => fun _ M => .ok (.ty n) M
  | .neg a => fun sp M => (ev a sp M).bind fun p M1 => .ofO (negP M1 p) M1
  | .notE a => fun sp M => (ev a sp M).bind fun p M1 => match p with
    | .bl b => .ok (.bl (!b)) M1
    | _ => .bad
  | .bin op a b => fun sp M => (ev a sp M).bind fun p M1 => (ev b sp M1).bind fun q M2 => .ofO (binP op M2 p q) M2
  | .cmp op a b => fun sp M => (ev a sp M).bind fun p M1 => (ev b sp M1).bind fun q M2 => .ofO (cmpP op M2 p q) M2
  | .cmp2 op op2 a b c => fun sp M => (ev a sp M).bind fun p M1 => (ev b sp M1).bind fun q M2 => match cmpP op M2 p q with
    | some (.bl true) => (ev c sp M2).bind fun r M3 => .ofO (cmpP op2 M3 q r) M3
    | some (.bl false) => .ok (.bl false) M2
    | _ => .bad
  | .andE es => fun sp M => evAnd es sp M
  | .orE es => fun sp M => evOr es sp M
  | .ife c a b => fun sp M => (ev c sp M).bind fun p M1 => match p with
    | .bl true => ev a sp M1
    | .bl false => ev b sp M1
    | _ => .bad
  | .tup es => fun sp M => (evs es sp M).bind fun ps M1 => if ps.length ≤ sizeLine then .ok (.tup ps) M1 else .bad
  | .lst es => fun sp M => (evs es sp M).bind fun ps M1 => if ps.length ≤ sizeLine then .ok (.lst ps) M1 else .bad
  | .lstR es => fun sp M => (evs es sp M).bind fun ps M1 => if ps.length ≤ sizeLine then .ok (.ref M1.length) (M1 ++ [some (.lst ps)]) else .bad
  | .idx a i => fun sp M => (ev a sp M).bind fun p M1 => (ev i sp M1).bind fun q M2 => .ofO (idxP M2 p q) M2
  | .slc a lo hi => fun sp M => (ev a sp M).bind fun p M1 => (evO lo sp M1).bind fun l M2 => (evO hi sp M2).bind fun h M3 => .ofO (slcP M3 p l h) M3
  | .call f es => fun sp M => (evs es sp M).bind fun ps M1 => Γ f ps M1
  | .callV i es => fun sp M => match sp[i]? with
    | some (some (.fn f)) => (evs es sp M).bind fun ps M1 => Γ f ps M1
    | _ => .bad
  | .callB b es => fun sp M => (evs es sp M).bind fun ps M1 => .ofO (biP b M1 ps) M1
  | .meth m o es => fun sp M => (ev o sp M).bind fun p M1 => if tyM M1 p = true then (evs es sp M1).bind fun ps M2 => bmR m M2 p ps else .bad
  | .frz i => fun sp M => match sp[i]? with
    | some (some (.ref n)) => match lstAt M n with
      | some xs => .ok (.lst xs) (M.set n none)
      | none => .bad
    | _ => .bad
  | .sset a => fun sp M => (ev a sp M).bind fun p M1 => .ofO (ssetP M1 p) M1
  | .comp own tg it cd elt => fun sp M => (evI it sp M).bind fun J M1 =>
      (compR J.gd (fun x M2 => match asg tg x (wipeP sp (own.map (·.2))) with
        | some sp1 => match evC cd sp1 M2 with
          | .ok true M3 => (ev elt sp1 M3).bind fun y M4 => .ok (some y) M4
          | .ok false M3 => .ok none M3
          | _ => .bad
        | none => .bad) J.items M1).bind fun ys M2 => .ok (.lst ys) M2
/-- a part of a slice -/
noncomputable def evO : Option CE → Ev (Option Int)
  | none => fun _ M => .ok none M
  | some c => fun sp M => (ev c sp M).bind fun p M1 => match p with
    | .int n => .ok (some n) M1
    | _ => .bad
/-- a block's test -/
noncomputable def evC : Option CE → Ev Bool
  | none => fun _ M => .ok true M
  | some c => fun sp M => (ev c sp M).bind fun p M1 => match p with
    | .bl b => .ok b M1
    | _ => .bad
noncomputable def evs : CEs → Ev (List PV)
  | .nil => fun _ M => .ok [] M
  | .cons e r => fun sp M => (ev e sp M).bind fun p M1 => (evs r sp M1).bind fun ps M2 => .ok (p :: ps) M2
  | .star e r => fun sp M => (ev e sp M).bind fun p M1 => match p with
    | .tup xs => (evs r sp M1).bind fun ps M2 => .ok (xs ++ ps) M2
    | .lst xs => (evs r sp M1).bind fun ps M2 => .ok (xs ++ ps) M2
    | _ => .bad
noncomputable def evAnd : CEs → Ev PV
  | .cons e .nil => fun sp M => ev e sp M
  | .cons e r => fun sp M => (ev e sp M).bind (andK (evAnd r sp))
  | _ => fun _ _ => .bad
noncomputable def evOr : CEs → Ev PV
  | .cons e .nil => fun sp M => ev e sp M
  | .cons e r => fun sp M => (ev e sp M).bind (orK (evOr r sp))
  | _ => fun _ _ => .bad
noncomputable def evI : CI → Ev ItV
  | .seq e => fun sp M => (ev e sp M).bind fun p M1 => .ofO (seqIt M1 p) M1
  | .rng1 a => fun sp M => (ev a sp M).bind fun p M1 => match p with
    | .int n => .ofO (rngIt 0 n) M1
    | _ => .bad
  | .rng2 a b => fun sp M => (ev a sp M).bind fun p M1 => (ev b sp M1).bind fun q M2 => match p, q with
    | .int i, .int j => .ofO (rngIt i j) M2
    | _, _ => .bad
  | .rng3 a b c => fun sp M => (ev a sp M).bind fun p M1 => (ev b sp M1).bind fun q M2 => (ev c sp M2).bind fun r M3 => match p, q, r with
    | .int i, .int j, .int k => .ofO (rngIt3 i j k) M3
    | _, _, _ => .bad
  | .enum e => fun sp M => (ev e sp M).bind fun p M1 => match seqIt M1 p with
    | some J => .ok ⟨enumL J.items, J.gd⟩ M1
    | none => .bad
  | .zip a b => fun sp M => (ev a sp M).bind fun p M1 => (ev b sp M1).bind fun q M2 => match seqIt M2 p, seqIt M2 q with
    | some J, some J' => .ok ⟨zipL J.items J'.items, J.gd ++ J'.gd⟩ M2
    | _, _ => .bad
end

/-! ### statements -/
/-- an expression of an except suite: the error's fields by number -/
inductive HE where
  | non | bl (b : Bool) | int (i : Int) | str (s : Str)
  | fld (i : Nat)
  | tup (es : List HE)
mutual
def evH (x : Exc) : HE → Option PV
  | .non => some .non
  | .bl b => some (.bl b)
  | .int i => some (.int i)
  | .str s => some (.str s)
  | .fld i => x.fs[i]?
  | .tup es => (evHs x es).map .tup
def evHs (x : Exc) : List HE → Option (List PV)
  | [] => some []
  | e :: es => match evH x e, evHs x es with
    | some p, some ps => some (p :: ps)
    | _, _ => none
end
/-- an except suite -/
inductive HS where
  | ret (e : HE)
  | raise (c : Nat)
  | cont
  | pass
/-- an except clause: its class, the error's name's slot, its suite -/
structure HC where
  c : Nat
  nm : Option Nat
  su : HS
mutual
inductive CS where
  | asg (t : CT) (e : CE)
  | asgC (i : Nat) (own : List (Str × Nat)) (tg : CT) (it : CI) (cd : Option CE) (elt : CE)
  | par (ts : List Nat) (es : CEs)
  | asgI (o i e : CE)
  | aug (i : Nat) (op : Operator) (e : CE)
  | augI (o i : CE) (op : Operator) (e : CE)
  | expr (e : CE)
  | ret (e : CE) | retN
  | ite (c : CE) (a b : CSs)
  | forS (t : CT) (it : CI) (body : CSs)
  | whileS (c : CE) (body : CSs)
  | raise (c : Nat) (es : CEs)
  | tryS (body : CSs) (hs : List HC)
  | pass | brk | cnt
inductive CSs where
  | nil
  | cons (s : CS) (r : CSs)
end
def SRes.ofR {α : Type} (r : Res α) (sp : Sl) (k : α → Store → SRes) : SRes := match r with
  | .ok a M => k a M
  | .exc x M => .exc x sp M
  | .bad => .bad
def SRes.seq (r : SRes) (k : Ex) : SRes := match r with
  | .nx sp M => k sp M
  | r => r
open Classical in
noncomputable def gdIfS (M : Store) (gd : List (Nat × List PV)) (r : SRes) : SRes := if gdOk M gd then r else .bad
theorem gdIfS_nil (M : Store) (r : SRes) : gdIfS M [] r = r := by
  unfold gdIfS
  rw [if_pos ((gdOk_nil M).mpr trivial)]
noncomputable def forR (gd : List (Nat × List PV)) (b : PV → Sl → Option Sl) (body : Ex) : List PV → Ex
  | [], sp, M => gdIfS M gd (.nx sp M)
  | x :: xs, sp, M => gdIfS M gd (match b x sp with
    | none => .bad
    | some sp1 => match body sp1 M with
      | .nx sp2 M2 => forR gd b body xs sp2 M2
      | .cnt sp2 M2 => forR gd b body xs sp2 M2
      | .brk sp2 M2 => .nx sp2 M2
      | r => r)
/-- one turn of a while, then k -/
def whileK (c : Ev Bool) (body k : Ex) : Ex := fun sp M => .ofR (c sp M) sp fun b M1 => if b = true then (match body sp M1 with
    | .nx sp2 M2 => k sp2 M2
    | .cnt sp2 M2 => k sp2 M2
    | .brk sp2 M2 => .nx sp2 M2
    | r => r) else .nx sp M1
def whileN (c : Ev Bool) (body : Ex) : Nat → Ex
  | 0 => fun _ _ => .bad
  | n + 1 => whileK c body (whileN c body n)
open Classical in
noncomputable def whileR (c : Ev Bool) (body : Ex) : Ex := fun sp M => if h : ∃ n, whileN c body n sp M ≠ .bad then whileN c body (choose h) sp M else .bad
theorem whileN_succ {c : Ev Bool} {body : Ex} : ∀ {n : Nat} {sp : Sl} {M : Store}, whileN c body n sp M ≠ .bad → whileN c body (n + 1) sp M = whileN c body n sp M
  | 0, _, _, h => (h rfl).elim
  | n + 1, sp, M, h => by
    have ih := fun sp M => @whileN_succ c body n sp M
    revert h
    show whileK c body (whileN c body n) sp M ≠ .bad → whileK c body (whileN c body (n + 1)) sp M = whileK c body (whileN c body n) sp M
    unfold whileK SRes.ofR
    cases c sp M with
    | ok b M1 =>
      dsimp only
      cases b with
      | true =>
        rw [if_pos rfl, if_pos rfl]
        cases body sp M1 with
        | nx sp2 M2 => exact ih sp2 M2
        | cnt sp2 M2 => exact ih sp2 M2
        | _ => exact fun _ => rfl
      | false => exact fun _ => rfl
    | exc x M1 => exact fun _ => rfl
    | bad => exact fun _ => rfl
theorem whileN_add {c : Ev Bool} {body : Ex} {n : Nat} {sp : Sl} {M : Store} (h : whileN c body n sp M ≠ .bad) : ∀ m, whileN c body (n + m) sp M = whileN c body n sp M
  | 0 => rfl
  | m + 1 => by
    have e := whileN_add h m
    rw [← Nat.add_assoc, whileN_succ (by rw [e]; exact h), e]
theorem whileR_of {c : Ev Bool} {body : Ex} {n : Nat} {sp : Sl} {M : Store} (h : whileN c body n sp M ≠ .bad) : whileR c body sp M = whileN c body n sp M := by
  have hx : ∃ n, whileN c body n sp M ≠ .bad := ⟨n, h⟩
  unfold whileR
  rw [dif_pos hx]
  have hc := Classical.choose_spec hx
  generalize Classical.choose hx = k at hc ⊢
  rcases Nat.le_total k n with z | z
  · obtain ⟨m, rfl⟩ := Nat.exists_eq_add_of_le z
    exact (whileN_add hc m).symm
  · obtain ⟨m, rfl⟩ := Nat.exists_eq_add_of_le z
    exact whileN_add h m
theorem whileR_bad {c : Ev Bool} {body : Ex} {sp : Sl} {M : Store} (h : ∀ n, whileN c body n sp M = .bad) : whileR c body sp M = .bad := by
  unfold whileR
  rw [dif_neg (fun ⟨n, z⟩ => z (h n))]
/-- a while is one turn, then the while -/
theorem whileR_unfold (c : Ev Bool) (body : Ex) (sp : Sl) (M : Store) : whileR c body sp M = whileK c body (whileR c body) sp M := by
  have key : ∀ (sp2 : Sl) (M2 : Store), (∃ n, whileN c body n sp2 M2 ≠ .bad ∧ whileR c body sp2 M2 = whileN c body n sp2 M2) ∨ ((∀ n, whileN c body n sp2 M2 = .bad) ∧ whileR c body sp2 M2 = .bad) := fun sp2 M2 => by
    by_cases h : ∃ n, whileN c body n sp2 M2 ≠ .bad
    · obtain ⟨n, h⟩ := h
      exact .inl ⟨n, h, whileR_of h⟩
    · have h' : ∀ n, whileN c body n sp2 M2 = .bad := fun n => Classical.byContradiction fun z => h ⟨n, z⟩
      exact .inr ⟨h', whileR_bad h'⟩
  have main : (∀ k : Ex, whileK c body k sp M = whileK c body (whileR c body) sp M) ∨ ∃ sp2 M2, ∀ k : Ex, whileK c body k sp M = k sp2 M2 := by
    unfold whileK SRes.ofR
    cases c sp M with
    | ok b M1 =>
      dsimp only
      cases b with
      | true =>
        simp only [if_true]
        cases body sp M1 with
        | nx sp2 M2 => exact .inr ⟨sp2, M2, fun _ => rfl⟩
        | cnt sp2 M2 => exact .inr ⟨sp2, M2, fun _ => rfl⟩
        | _ => exact .inl fun _ => rfl
      | false => exact .inl fun _ => rfl
    | exc x M1 => exact .inl fun _ => rfl
    | bad => exact .inl fun _ => rfl
  rcases main with h | ⟨sp2, M2, h⟩
  · have e : whileN c body 1 sp M = whileK c body (whileR c body) sp M := h _
    by_cases hb : whileN c body 1 sp M = .bad
    · rw [← e, hb]
      refine whileR_bad fun n => ?_
      cases n with
      | zero => rfl
      | succ n => exact (h _).trans (e.symm.trans hb)
    · rw [whileR_of hb, e]
  · rw [h (whileR c body)]
    rcases key sp2 M2 with ⟨n, h1, h2⟩ | ⟨h1, h2⟩
    · have e : whileN c body (n + 1) sp M = whileN c body n sp2 M2 := h _
      rw [whileR_of (n := n + 1) (by rw [e]; exact h1), e, h2]
    · rw [h2]
      refine whileR_bad fun n => ?_
      cases n with
      | zero => rfl
      | succ n => exact (h _).trans (h1 n)

def setP (M : Store) (o i v : PV) : Option Store := match o, i with
  | .ref n, .int k => match lstAt M n with
    | some xs => match ixN xs.length k with
      | some j => some (M.set n (some (.lst (xs.set j v))))
      | none => none
    | none => none
  | _, _ => none
/-- in place, of ints -/
def augP (op : Operator) (M : Store) (p q : PV) : Option PV := match p, q with
  | .int i, .int j => match op with
    | .Add => some (.int (i + j))
    | .Sub => some (.int (i - j))
    | .Mult => if (decide (-2 ^ 64 < j) && decide (j < 2 ^ 64)) = true then some (.int (i * j)) else none
    | _ => none
  | _, _ => none
def excM (exm : List (Nat × Nat × Bool)) (c d : Nat) : Option Bool := match exm.find? fun z => z.1 == c && z.2.1 == d with
  | some (_, _, b) => some b
  | none => none
def runS (x : Exc) (su : HS) (sp : Sl) (M : Store) : SRes := match su with
  | .ret e => match evH x e with
    | some p => .ret p M
    | none => .bad
  | .raise c => .exc ⟨c, []⟩ sp M
  | .cont => .cnt sp M
  | .pass => .nx sp M
def runH (exm : List (Nat × Nat × Bool)) (x : Exc) (sp : Sl) (M : Store) : List HC → SRes
  | [] => .exc x sp M
  | h :: r => match excM exm x.cls h.c with
    | some true => match h.nm with
      | none => runS ⟨0, []⟩ h.su sp M
      | some i => runS x h.su (sp.set i none) M
    | some false => runH exm x sp M r
    | none => .bad
def evTr (r : Res PV) : Res Bool := r.bind fun p M1 => match p with
  | .bl b => .ok b M1
  | _ => .bad
def asgK (t : CT) (sp : Sl) : PV → Store → SRes := fun p M1 => match asg t p sp with
  | some sp' => .nx sp' M1
  | none => .bad
def parK (ts : List Nat) (sp : Sl) : List PV → Store → SRes := fun ps M1 => match asgs (ts.map .name) ps sp with
  | some sp' => .nx sp' M1
  | none => .bad
def setK (sp : Sl) (v p q : PV) (M : Store) : SRes := match setP M p q v with
  | some M4 => .nx sp M4
  | none => .bad
def augK (op : Operator) (i : Nat) (sp : Sl) (p : PV) : PV → Store → SRes := fun q M1 => match augP op M1 p q with
  | some r => .nx (sp.set i (some r)) M1
  | none => .bad
def augIK (op : Operator) (sp : Sl) (ce : Ev PV) (p k : PV) (M2 : Store) : SRes := match idxP M2 p k with
  | some old => .ofR (ce sp M2) sp fun q M3 => match augP op M3 old q with
    | some r => setK sp r p k M3
    | none => .bad
  | none => .bad
def isRef : PV → Bool
  | .ref _ => true
  | _ => false
mutual
noncomputable def ex : CS → Ex
  | .asg t e => fun sp M => .ofR (ev T Γ e sp M) sp (asgK t sp)
  | .asgC i own tg it cd elt => fun sp M => .ofR (ev T Γ (.comp own tg it cd elt) sp M) sp (asgK (.name i) sp)
  | .par ts es => fun sp M => .ofR (evs T Γ es sp M) sp (parK ts sp)
  | .asgI o i e => fun sp M => .ofR (ev T Γ e sp M) sp fun v M1 => .ofR (ev T Γ o sp M1) sp fun p M2 => .ofR (ev T Γ i sp M2) sp fun q M3 => setK sp v p q M3
  | .aug i op e => fun sp M => match sp[i]? with
    | some (some p) => .ofR (ev T Γ e sp M) sp (augK op i sp p)
    | _ => .bad
  | .augI o i op e => fun sp M => .ofR (ev T Γ o sp M) sp fun p M1 => .ofR (ev T Γ i sp M1) sp fun k M2 => if isRef p = true then augIK op sp (ev T Γ e) p k M2 else .bad
  | .expr e => fun sp M => .ofR (ev T Γ e sp M) sp fun _ M1 => .nx sp M1
  | .ret e => fun sp M => .ofR (ev T Γ e sp M) sp fun p M1 => .ret p M1
  | .retN => fun _ M => .ret .non M
  | .ite c a b => fun sp M => .ofR (evTr (ev T Γ c sp M)) sp fun t M1 => if t = true then exs a sp M1 else exs b sp M1
  | .forS t it body => fun sp M => .ofR (evI T Γ it sp M) sp fun J M1 => forR J.gd (asg t) (exs body) J.items sp M1
  | .whileS c body => whileR (fun sp M => evTr (ev T Γ c sp M)) (exs body)
  | .raise c es => fun sp M => .ofR (evs T Γ es sp M) sp fun ps M1 => .exc ⟨c, ps⟩ sp M1
  | .tryS body hs => fun sp M => match exs body sp M with
    | .exc x sp1 M1 => runH T.exm x sp1 M1 hs
    | r => r
  | .pass => fun sp M => .nx sp M
  | .brk => fun sp M => .brk sp M
  | .cnt => fun sp M => .cnt sp M
noncomputable def exs : CSs → Ex
  | .nil => fun sp M => .nx sp M
  | .cons s r => fun sp M => (ex s sp M).seq (exs r)
end
/-! ### defs -/
structure FnC where
  ar : Nat
  names : List Str
  body : CSs
mutual
/-- no store object from n on is named -/
def okRef (n : Nat) : PV → Bool
  | .ref k => decide (k < n)
  | .tup xs => okRefs n xs
  | .lst xs => okRefs n xs
  | _ => true
def okRefs (n : Nat) : List PV → Bool
  | [] => true
  | x :: xs => okRef n x && okRefs n xs
end
def okObj (n : Nat) : Option SObj → Bool
  | none => true
  | some (.lst xs) => okRefs n xs
  | some (.ins _ fs) => fs.all fun o => match o with
    | some p => okRef n p
    | none => true
/-- what a def made and nobody names is let go -/
def gcM (n : Nat) (M : Store) (ps : List PV) : Store :=
  if M.length ≤ n then M else if (okRefs n ps && (M.take n).all (okObj n)) = true then M.take n else M
noncomputable def runF (c : FnC) (ps : List PV) (M : Store) : Res PV :=
  if ps.length = c.ar then
    match exs T Γ c.body (ps.map some ++ List.replicate (c.names.length - c.ar) none) M with
    | .nx _ M' => .ok .non (gcM M.length M' [])
    | .ret p M' => .ok p (gcM M.length M' [p])
    | .exc x _ M' => .exc x (gcM M.length M' x.fs)
    | _ => .bad
  else .bad
/-- all defs, to a depth of calls -/
noncomputable def Fn (T : Tab) (codes : Nat → Option FnC) : Nat → Fns
  | 0 => fun _ _ _ => .bad
  | k + 1 => fun f ps M => match codes f with
    | some c => runF T (Fn T codes k) c ps M
    | none => .bad
end
end DI
set_option maxHeartbeats 2000000
/-! # DI: the syntax's side conditions; what a def promises; expressions -/
namespace DI
open PySem PySem.Spec L2

/-! ### side conditions of the syntax, as tests -/
def notStar : PySem.Expr → Bool
  | .Starred .. => false
  | _ => true
theorem star_cons {e : PySem.Expr} {es : List PySem.Expr} {env : Env} (h : notStar e = true) : starEach (e :: es) env = (false, eval e env) :: starEach es env := by
  cases e <;> first | rfl | cases h
theorem star_none {env : Env} {pos : Pos} : ∀ {es : List PySem.Expr}, es.all notStar = true → (backTo pos (starEach es env)).any (·.1) = false
  | [], _ => rfl
  | e :: es, h => by
    rw [List.all_cons, Bool.and_eq_true] at h
    rw [star_cons h.1]
    show (false || (backTo pos (starEach es env)).any (·.1)) = false
    rw [star_none h.2]
    rfl
def notSlice : PySem.Expr → Bool
  | .Slice .. => false
  | _ => true
theorem plainIx_of {e : PySem.Expr} (h : notSlice e = true) : PlainIx e := fun _ _ => by
  cases e <;> first | rfl | cases h
def notSet : PySem.Expr → Bool
  | .Set .. => false
  | _ => true
theorem behind_of {op : CmpOp} {e : PySem.Expr} (h : notSet e = true) : behindInMarks op e = false := by
  cases e <;> first | rfl | cases h
theorem folded_of {e : PySem.Expr} {env : Env} (h : notSet e = true) : ∀ x, foldedSetIterable e env x = pure x := fun x => by
  cases e <;> first | rfl | cases h
def plainT : PySem.Expr → Bool
  | .UnaryOp .. => false
  | .BoolOp .. => false
  | .IfExp .. => false
  | .Compare .. => false
  | _ => true
theorem isTrue_of {e : PySem.Expr} {env : Env} (h : plainT e = true) : ∀ whole, isTrue e env whole = (do let v ← whole; standAt e.pos; holding [v] (truthy v)) := fun whole => by
  cases e <;> first | rfl | cases h
def notCall : PySem.Expr → Bool
  | .Call .. => false
  | _ => true
theorem base_of {e : PySem.Expr} {f : Str} {env : Env} {whole : Sem Value} (h : notCall e = true) : attributeBase e f env whole = whole := by
  cases e <;> first | rfl | cases h
def notComp : PySem.Expr → Bool
  | .ListComp .. => false
  | .SetComp .. => false
  | .DictComp .. => false
  | _ => true
theorem swaps_of {e : PySem.Expr} {t : Option PySem.Expr} {l : Nat} {env : Env} (h : notComp e = true) : swapsWith e t l env = pure false := by
  cases e <;> first | rfl | cases h

/-! ### what a def promises -/
def PostF (G : Gd) (M : Store) (ι : List Addr) (H : Hp) (Q : VK) (E : XK) : Res PV → Prop
  | .ok p M' => ∀ ι' H' v, MRel G M' ι' H' → Ext M ι H M' ι' H' → Rp G ι' H' (Own M' ι') p v → Q v H'
  | .exc x M' => ∀ ι' H' cv d, MRel G M' ι' H' → Ext M ι H M' ι' H' → XRep G ι' H' (Own M' ι') x cv d → E cv d H'
  | .bad => False
def spD (G : Gd) (g : List PV → Store → Res PV) : Sp := fun vs H Q E => ∃ M ι ps, MRel G M ι H ∧ Rps G ι H (Own M ι) ps vs ∧ PostF G M ι H Q E (g ps M)
theorem PostF.ofE {G : Gd} {W : WX} {σ : St} {M : Store} {ι : List Addr} {H : Hp} {Q : VK} {r : Res PV} (h : PostE G W σ M ι H Q r) : PostF G M ι H Q (fun cls d H' => W cls d σ H') r := by
  cases r <;> exact h
/-- room for k calls, no repr going on -/
structure RoomG (k : Nat) (A : Around) : Prop where
  room : Room k A
  g : A.guards = some []
theorem RoomG.deeper {k : Nat} {A : Around} (r : RoomG (k + 1) A) (env : Env) : RoomG k (A.deeper env) := ⟨r.room.deeper env, r.g⟩
/-- a def keeps a promise, at most k calls deep -/
structure FnD (P : Program) (w : World) (K : PySem.W.Frag) (mg : Str → Option Value) (base : Heap) (k : Nat) (f : Addr) (sp : Sp) : Prop where
  keep : PySem.W.keepIn K (.ref f) = true
  run : ∀ (A : Around) (outer : List Env) (s : Shared) (H : Hp) (us : List Value) (vs : List V) (Q : VK) (E : XK), RoomG k A → Env0 P w K mg base A outer s H → Vals vs us → sp vs H Q E →
    codeAny (model P w) A (.call (.ref f) ⟨us, []⟩) (CR (L2.CX P w) outer P w H s Q E) s
/-- the context of a piece of code: its names and scope, the defs that may be called -/
structure Good (G : Gd) (Γ : Fns) (N : List Str) (sc : Scope) (fb : Str → Bool) (X : Cx) : Prop where
  hK : X.K = G.K
  hmg : X.mg = G.mg
  hN : X.N = N
  nd : N.Nodup
  hs : X.env.scope = sc
  calm : X.calm = true
  gds : X.A.guards = some []
  un : X.A.units + 66 < cLine
  st : ∀ x, fb x = true → X.fn x = true
  fns : ∃ k, RoomG k X.A ∧ ∀ (f : Nat) (x : Str) (a : Addr), G.fnm f = some x → G.mg x = some (.ref a) → FnD X.prog X.w X.K X.mg X.base k a (spD G (Γ f))
/-- what the tables say holds -/
structure TabOk (T : Tab) (G : Gd) : Prop where
  cst : ∀ (k : Nat) (x : Str) (p : PV), T.cst[k]? = some (x, p) → ∃ u v, G.mg x = some u ∧ RelV v u ∧ ∀ ι H O, Rp G ι H O p v
  fnm : ∀ (f : Nat) (x : Str), T.fnm[f]? = some x → G.fnm f = some x ∧ ∃ a, G.mg x = some (.ref a)
  cnm : ∀ (c : Nat) (x : Str) (fs : List Str), T.cnm[c]? = some (x, fs) → G.cnm c = some (x, fs) ∧ ∃ C, G.mg x = some (.ref C)
  free : ∀ x ∈ T.free, G.mg x = none
  ex0 : ∀ c ∈ T.ex0, ∀ x fs, T.cnm[c]? = some (x, fs) → ∃ (C : Addr) (bmB : List Value) (B newId initId : String), ExcBaseFacts B newId initId bmB ∧ PySem.W.excIn G.K C bmB newId = true ∧ G.mg x = some (.ref C) ∧ PySem.W.keepIn G.K (.ref C) = true ∧
    PySem.W.subIn G.K (.ref C) (.type "BaseException") = some true ∧ PySem.W.typeIn G.K (.ref C) = some (.type "type")
  exm : ∀ (c d : Nat) (b : Bool), (c, d, b) ∈ T.exm → ∀ (x y : Str) (fs gs : List Str) (C D : Addr), G.cnm c = some (x, fs) → G.cnm d = some (y, gs) → G.mg x = some (.ref C) → G.mg y = some (.ref D) → PySem.W.exmOne G.K (.ref C) (.ref D) = some b
def visB (sc : Scope) (x : Str) : Bool := match sc.names.lookup x with
  | some .local => true
  | some .cell => true
  | some .free => true
  | _ => false
theorem vis_of {sc : Scope} {x : Str} (h : visB sc x = true) : Vis sc x := by
  unfold visB at h
  split at h
  · exact .inl (by assumption)
  · exact .inr (.inl (by assumption))
  · exact .inr (.inr (by assumption))
  · cases h
def locB (sc : Scope) (x : Str) : Bool := match sc.names.lookup x with
  | some .local => true
  | some .cell => true
  | _ => false
theorem loc_of {sc : Scope} {x : Str} (h : locB sc x = true) : Loc sc x := by
  unfold locB at h
  split at h
  · exact .inl (by assumption)
  · exact .inr (by assumption)
  · cases h
def glB (sc : Scope) (x : Str) : Bool := decide (sc.names.lookup x = some .globalImplicit)
def dbgB (x : Str) : Bool := !(x == ("__debug__" : Str)) && !(x == ("__classdict__" : Str))
theorem dbg1 {x : Str} (h : dbgB x = true) : (x == ("__debug__" : Str)) = false := by
  unfold dbgB at h
  simp only [Bool.and_eq_true, Bool.not_eq_true'] at h
  exact h.1
theorem dbg2 {x : Str} (h : dbgB x = true) : (x == ("__classdict__" : Str)) = false := by
  unfold dbgB at h
  simp only [Bool.and_eq_true, Bool.not_eq_true'] at h
  exact h.2

/-! ### calls of defs -/
section
variable {X : Cx} {G : Gd} {W : WX}
theorem run_fnD {pins : List (Addr × Obj)} {σ : St} {H : Hp} {s : Shared} {Q : VK} {k : Nat} {f : Addr} {sp : Sp} {us : List Value} {vs : List V} (F : FnD X.prog X.w X.K X.mg X.base k f sp) (hr : RoomG k X.A) (tk : Takes X W)
    (I : Inv X pins σ H s) (r : Vals vs us) (h : sp vs H Q (WE W σ)) : wpAny (model X.prog X.w) X.A (call (.ref f) us) (EP X pins σ Q) X.xe s := by
  refine wpAny_call (codeAny_mono (F.run X.A X.stack s H us vs Q (WE W σ) hr I.env0 r h) fun r s' hq => ?_)
  cases r with
  | error e => exact passAt tk σ pins H s e s' I hq
  | ok fl =>
    cases fl with
    | ret u => exact I.after hq
    | next => exact False.elim hq
    | brk => exact False.elim hq
    | cont => exact False.elim hq
/-- e(..) where e's value is a def -/
def tCallD (S : Addr → Sp → Prop) (W : WX) (tf : TE) (t : TA) : TE := fun σ H Q => tf σ H fun v H0 => ∃ f sp, v = .ref f ∧ S f sp ∧ t σ H0 fun vs H1 => sp vs H1 Q (WE W σ)
theorem pe_callD {S : Addr → Sp → Prop} {k : Nat} {x : Str} {p pos : Pos} {e : PySem.Expr} {es : List PySem.Expr} {tf : TE} {t : TA} (hS : ∀ f sp, S f sp → FnD X.prog X.w X.K X.mg X.base k f sp) (hr : RoomG k X.A) (tk : Takes X W)
    (hf : PE X (.Name x p) tf) (ha : PA X (e :: es) t) (hns : (e :: es).all notStar = true) :
    PE X (.Call (.Name x p) (e :: es) [] pos) (tCallD S W tf t) := by
  refine ⟨fun pins s σ H Q I h => ?_⟩
  refine wpAny_Call_Name_kw (thn (hf.run pins s σ H _ I h) fun u s1 ⟨v, H1, I1, r1, q1⟩ => ?_)
  obtain ⟨f, sp, rfl, hs, ht⟩ := q1
  cases r1
  have F := hS f sp hs
  rw [List.all_cons, Bool.and_eq_true] at hns
  exact PySem.W.callWith_K (h₀ := X.base) I.ok.mod.kin F.keep (thn (ha.run pos pins s1 σ H1 _ I1 ht) fun us s2 ⟨vs, H2, I2, r2, q2⟩ => ⟨I2.kIn, run_fnD F hr tk I2 r2 q2⟩) (star_cons hns.1) (star_none hns.2)
theorem pe_callD0 {S : Addr → Sp → Prop} {k : Nat} {x : Str} {p pos : Pos} {tf : TE} (hS : ∀ f sp, S f sp → FnD X.prog X.w X.K X.mg X.base k f sp) (hr : RoomG k X.A) (tk : Takes X W)
    (hf : PE X (.Name x p) tf) : PE X (.Call (.Name x p) [] [] pos) (tCallD S W tf tNil) := by
  refine ⟨fun pins s σ H Q I h => ?_⟩
  refine wpAny_Call_Name_kw (thn (hf.run pins s σ H _ I h) fun u s1 ⟨v, H1, I1, r1, q1⟩ => ?_)
  obtain ⟨f, sp, rfl, hs, ht⟩ := q1
  cases r1
  exact PySem.W.callWith_K0 I1.kIn (hS f sp hs).keep (run_fnD (hS f sp hs) hr tk I1 .nil ht)
end
end DI
set_option maxHeartbeats 2000000
/-! # DI: expressions, rule by rule -/
namespace DI
open PySem PySem.Spec L2
section
variable {T : Tab} {G : Gd} {Γ : Fns} {W : WX} {σ : St} {M : Store} {ι : List Addr} {H : Hp}
theorem PostE.ofO {Q : VK} {o : Option PV} (h : PostE G W σ M ι H Q (.ofO o M)) : PostV G M ι H Q o := by
  cases o with
  | none => exact h
  | some p => exact h
theorem LE.two {ca cb : Ev PV} {f : P2} {Q : VK} (h : LE G W (fun sp M => (ca sp M).bind fun p M1 => (cb sp M1).bind fun q M2 => .ofO (f M2 p q) M2) σ H Q) : tOp (LR2 G f) (LE G W ca) (LE G W cb) σ H Q := by
  obtain ⟨M, ι, sp, m, s, post⟩ := h
  exact ⟨M, ι, sp, m, s, post.bind fun p M1 ι1 H1 v m1 e1 r1 post1 => ⟨M1, ι1, sp, m1, s.ext e1, post1.bind fun q M2 ι2 H2 w m2 e2 r2 post2 => ⟨M2, ι2, p, q, m2, r1.ext e2, r2, post2.ofO⟩⟩⟩
theorem LE.one {ca : Ev PV} {f : P1} {Q : VK} (h : LE G W (fun sp M => (ca sp M).bind fun p M1 => .ofO (f M1 p) M1) σ H Q) : tUn (LR1 G f) (LE G W ca) σ H Q := by
  obtain ⟨M, ι, sp, m, s, post⟩ := h
  exact ⟨M, ι, sp, m, s, post.bind fun p M1 ι1 H1 v m1 e1 r1 post1 => ⟨M1, ι1, p, m1, r1, post1.ofO⟩⟩
theorem LA.call {ca : Ev (List PV)} {f : PN} {Q : VK} (h : LE G W (fun sp M => (ca sp M).bind fun ps M1 => .ofO (f M1 ps) M1) σ H Q) : tCB (LRN G f) (LA G W ca) σ H Q := by
  obtain ⟨M, ι, sp, m, s, post⟩ := h
  exact ⟨M, ι, sp, m, s, PostA.bind post fun p M1 ι1 H1 v m1 e1 r1 post1 => ⟨M1, ι1, p, m1, r1, post1.ofO⟩⟩
end
section
variable {T : Tab} {G : Gd} {Γ : Fns} {W : WX} {X : Cx} {pos : Pos} {a b c : PySem.Expr} {ca cb cc : Ev PV}
theorem se_var {i : Nat} {x : Str} (hN : X.N[i]? = some x) (hv : Vis X.env.scope x) (hd : dbgB x = true) : PE X (.Name x pos) (LE G W (ev T Γ (.var i))) := by
  refine (pe_var hN hv (dbg1 hd) (dbg2 hd)).w fun σ H Q h => ?_
  obtain ⟨M, ι, sp, m, s, post⟩ := h
  simp only [ev] at post
  split at post
  · rename_i p hp
    obtain ⟨v, h1, h2⟩ := s.at_ i p hp
    exact ⟨v, h1, post ι H v m .refl h2⟩
  · exact post.elim
theorem se_const {k : Const} {j : Nat} {v : V} {p : PV} (h0 : PE X (.Constant k j pos) (tC v)) (hr : ∀ G ι H O, Rp G ι H O p v) {cp : Ev PV} (hc : ∀ sp M, cp sp M = .ok p M) : PE X (.Constant k j pos) (LE G W cp) := by
  refine h0.w fun σ H Q h => ?_
  obtain ⟨M, ι, sp, m, s, post⟩ := h
  rw [hc] at post
  exact post ι H v m .refl (hr _ _ _ _)
theorem se_globV {x : Str} {u : Value} {v : V} {p : PV} (hg : Gl X x) (hm : X.mg x = some u) (r : RelV v u) (hd : dbgB x = true) (hr : ∀ ι H O, Rp G ι H O p v) {cp : Ev PV} (hc : ∀ sp M, cp sp M = .ok p M) : PE X (.Name x pos) (LE G W cp) := by
  refine (pe_glob hg hm r (dbg1 hd)).w fun σ H Q h => ?_
  obtain ⟨M, ι, sp, m, s, post⟩ := h
  rw [hc] at post
  exact post ι H v m .refl (hr _ _ _)
theorem se_bty {x : Str} {n : String} (hg : Gl X x) (hm : X.mg x = none) (hv : bootBuiltins x = some (.type n)) (hn : x ≠ "__name__") (hd : dbgB x = true) : PE X (.Name x pos) (LE G W (ev T Γ (.bty n))) := by
  refine (pe_bltn (v := .ty n) hg hm hv rfl hn (dbg1 hd)).w fun σ H Q h => ?_
  obtain ⟨M, ι, sp, m, s, post⟩ := h
  simp only [ev] at post
  exact post ι H _ m .refl (.ty n)
theorem se_neg (ha : PE X a (LE G W ca)) : PE X (.UnaryOp .USub a pos) (LE G W fun sp M => (ca sp M).bind fun p M1 => .ofO (negP M1 p) M1) :=
  (pe_un pr_neg ha).w fun σ H Q h => h.one
theorem se_not (ha : PE X a (LE G W ca)) : PE X (.UnaryOp .Not a pos) (LE G W fun sp M => (ca sp M).bind fun p M1 => match p with | .bl b => .ok (.bl (!b)) M1 | _ => .bad) := by
  refine (pe_not ha).w fun σ H Q h => ?_
  obtain ⟨M, ι, sp, m, s, post⟩ := h
  refine ⟨M, ι, sp, m, s, post.bind fun p M1 ι1 H1 v m1 e1 r1 post1 => ?_⟩
  cases p with
  | bl b => cases r1; exact ⟨b, rfl, post1 ι1 H1 _ m1 .refl (.bl _)⟩
  | _ => exact post1.elim
theorem se_bin (hK : X.K = G.K) {op : Operator} (ha : PE X a (LE G W ca)) (hb : PE X b (LE G W cb)) : PE X (.BinOp a op b pos) (LE G W fun sp M => (ca sp M).bind fun p M1 => (cb sp M1).bind fun q M2 => .ofO (binP op M2 p q) M2) :=
  (pe_op (pr_bin hK op) ha hb).w fun σ H Q h => h.two
theorem se_cmp (hK : X.K = G.K) (hu : X.A.units + 66 < cLine) {op : CmpOp} (hn : notSet b = true) (ha : PE X a (LE G W ca)) (hb : PE X b (LE G W cb)) : PE X (.Compare a [op] [b] pos) (LE G W fun sp M => (ca sp M).bind fun p M1 => (cb sp M1).bind fun q M2 => .ofO (cmpP op M2 p q) M2) :=
  (pe_cmpR (pr_cmp hK (by omega) op) ha hb (behind_of hn)).w fun σ H Q h => h.two
theorem chain_w {op op2 : CmpOp} {σ : St} {H : Hp} {Q : VK} (h : LE G W (fun sp M => (ca sp M).bind fun p M1 => (cb sp M1).bind fun q M2 => match cmpP op M2 p q with
    | some (.bl true) => (cc sp M2).bind fun r M3 => .ofO (cmpP op2 M3 q r) M3
    | some (.bl false) => .ok (.bl false) M2
    | _ => .bad) σ H Q) : tChain (LR2 G (cmpP op)) (LR2 G (cmpP op2)) (LE G W ca) (LE G W cb) (LE G W cc) σ H Q := by
  obtain ⟨M, ι, sp, m, s, post⟩ := h
  refine ⟨M, ι, sp, m, s, post.bind fun p M1 ι1 H1 v m1 e1 r1 post1 => ⟨M1, ι1, sp, m1, s.ext e1, post1.bind fun q M2 ι2 H2 w m2 e2 r2 post2 => ⟨M2, ι2, p, q, m2, r1.ext e2, r2, ?_⟩⟩⟩
  split at post2
  · rename_i hc
    rw [hc]
    intro ι3 H3 z m3 e3 r3
    cases r3
    refine ⟨true, rfl, ?_⟩
    rw [if_pos rfl]
    have post3 := PostE.from post2 e3
    exact ⟨M2, ι3, sp, m3, ((s.ext e1).ext e2).ext e3, post3.bind fun r M4 ι4 H4 u m4 e4 r4 post4 => ⟨M4, ι4, q, r, m4, (r2.ext e3).ext e4, r4, post4.ofO⟩⟩
  · rename_i hc
    rw [hc]
    intro ι3 H3 z m3 e3 r3
    cases r3
    refine ⟨false, rfl, ?_⟩
    rw [if_neg Bool.false_ne_true]
    exact post2 ι3 H3 _ m3 e3 (.bl _)
  · exact post2.elim
theorem se_cmp2 (hK : X.K = G.K) (hu : X.A.units + 66 < cLine) {op op2 : CmpOp} (ha : PE X a (LE G W ca)) (hb : PE X b (LE G W cb)) (hc : PE X c (LE G W cc)) (hl : lastMarks [op, op2] [b, c] = false) :
    PE X (.Compare a [op, op2] [b, c] pos) (LE G W fun sp M => (ca sp M).bind fun p M1 => (cb sp M1).bind fun q M2 => match cmpP op M2 p q with
    | some (.bl true) => (cc sp M2).bind fun r M3 => .ofO (cmpP op2 M3 q r) M3
    | some (.bl false) => .ok (.bl false) M2
    | _ => .bad) :=
  (pe_chain (pr_cmp hK (by omega) op) (pr_cmp hK (by omega) op2) ha hb hc hl).w fun σ H Q h => chain_w h
theorem se_ife {t : Ev Bool} (hc : PT X c (LT G W t)) (ha : PE X a (LE G W ca)) (hb : PE X b (LE G W cb)) : PE X (.IfExp c a b pos) (LE G W fun sp M => (t sp M).bind fun k M1 => if k = true then ca sp M1 else cb sp M1) := by
  refine (pe_ifExp hc ha hb).w fun σ H Q h => ?_
  obtain ⟨M, ι, sp, m, s, post⟩ := h
  refine ⟨M, ι, sp, m, s, PostT.bind (r := t sp M) (k := fun k M1 => if k = true then ca sp M1 else cb sp M1) post fun k M1 ι1 H1 m1 e1 post1 => ?_⟩
  cases k with
  | true => exact ⟨M1, ι1, sp, m1, s.ext e1, post1⟩
  | false => exact ⟨M1, ι1, sp, m1, s.ext e1, post1⟩
theorem se_idx (hK : X.K = G.K) (hn : notSlice b = true) (ha : PE X a (LE G W ca)) (hb : PE X b (LE G W cb)) : PE X (.Subscript a b pos) (LE G W fun sp M => (ca sp M).bind fun p M1 => (cb sp M1).bind fun q M2 => .ofO (idxP M2 p q) M2) :=
  (pe_ix (pr_idx hK) ha hb (plainIx_of hn)).w fun σ H Q h => h.two
/-! ### arguments, displays -/
theorem sa_nil : PA X [] (LA G W fun _ M => .ok [] M) := pa_nil.w fun σ H Q h => by
  obtain ⟨M, ι, sp, m, s, post⟩ := h
  exact post ι H [] m .refl .nil
theorem sa_cons {es : List PySem.Expr} {cr : Ev (List PV)} (hn : notStar a = true) (ha : PE X a (LE G W ca)) (hr : PA X es (LA G W cr)) : PA X (a :: es) (LA G W fun sp M => (ca sp M).bind fun p M1 => (cr sp M1).bind fun ps M2 => .ok (p :: ps) M2) :=
  (pa_cons ha hr (star_cons hn)).w fun σ H Q h => by
    obtain ⟨M, ι, sp, m, s, post⟩ := h
    exact ⟨M, ι, sp, m, s, PostE.bindA post fun p M1 ι1 H1 v m1 e1 r1 post1 => ⟨M1, ι1, sp, m1, s.ext e1, PostA.bindA (k := fun ps M2 => .ok (p :: ps) M2) post1 fun ps M2 ι2 H2 vs m2 e2 r2 post2 => post2 ι2 H2 _ m2 .refl (.cons (r1.ext e2) r2)⟩⟩
theorem sa_star {es : List PySem.Expr} {cr : Ev (List PV)} {p : Pos} (hK : X.K = G.K) (ha : PE X a (LE G W ca)) (hr : PA X es (LA G W cr)) : PA X (.Starred a p :: es) (LA G W fun sp M => (ca sp M).bind fun p M1 => match p with
    | .tup xs => (cr sp M1).bind fun ps M2 => .ok (xs ++ ps) M2
    | .lst xs => (cr sp M1).bind fun ps M2 => .ok (xs ++ ps) M2
    | _ => .bad) :=
  (StX.pa_star ha hr).w fun σ H Q h => by
    obtain ⟨M, ι, sp, m, s, post⟩ := h
    refine ⟨M, ι, sp, m, s, PostE.bindA post fun p M1 ι1 H1 v m1 e1 r1 post1 => ?_⟩
    split at post1
    · cases r1 with
      | tup h1 h2 h3 => exact ⟨_, _, rfl, .inl (hK ▸ h1.sq), M1, ι1, sp, m1, s.ext e1, PostA.bindA (k := fun ps M2 => .ok (_ ++ ps) M2) post1 fun ps M2 ι2 H2 vs m2 e2 r2 post2 => post2 ι2 H2 _ m2 .refl ((h3.ext e2).append r2)⟩
    · cases r1 with
      | lst h1 h2 h3 => exact ⟨_, _, rfl, .inr (hK ▸ h1.sq), M1, ι1, sp, m1, s.ext e1, PostA.bindA (k := fun ps M2 => .ok (_ ++ ps) M2) post1 fun ps M2 ι2 H2 vs m2 e2 r2 post2 => post2 ι2 H2 _ m2 .refl ((h3.ext e2).append r2)⟩
    · exact post1.elim
theorem se_tup {es : List PySem.Expr} {x1 : Nat} {cr : Ev (List PV)} (h : PA X es (LA G W cr)) : PE X (.Tuple es x1 pos) (LE G W fun sp M => (cr sp M).bind fun ps M1 => if ps.length ≤ sizeLine then .ok (.tup ps) M1 else .bad) :=
  (pe_tup h).w fun σ H Q h => by
    obtain ⟨M, ι, sp, m, s, post⟩ := h
    refine ⟨M, ι, sp, m, s, PostA.bind post fun ps M1 ι1 H1 vs m1 e1 r1 post1 => ?_⟩
    split at post1
    · rename_i hz
      exact ⟨by rw [← r1.length]; exact hz, fun p hp => post1 ι1 _ _ (m1.new hp) (Ext.new hp) (m1.newRp hp hz r1)⟩
    · exact post1.elim
theorem se_lst {es : List PySem.Expr} {cr : Ev (List PV)} (h : PA X es (LA G W cr)) : PE X (.List es pos) (LE G W fun sp M => (cr sp M).bind fun ps M1 => if ps.length ≤ sizeLine then .ok (.lst ps) M1 else .bad) :=
  (pe_lst h).w fun σ H Q h => by
    obtain ⟨M, ι, sp, m, s, post⟩ := h
    refine ⟨M, ι, sp, m, s, PostA.bind post fun ps M1 ι1 H1 vs m1 e1 r1 post1 => ?_⟩
    split at post1
    · rename_i hz
      exact ⟨by rw [← r1.length]; exact hz, fun p hp => post1 ι1 _ _ (m1.new hp) (Ext.new hp) (m1.newRl hp hz r1)⟩
    · exact post1.elim
end
/-! ### a new object of the store -/
section
variable {G : Gd} {M : Store} {ι : List Addr} {H : Hp}
theorem get_push {α : Type} {l : List α} {x y : α} {n : Nat} (h : (l ++ [x])[n]? = some y) : l[n]? = some y ∨ (n = l.length ∧ x = y) := by
  by_cases hn : n < l.length
  · rw [List.getElem?_append_left hn] at h; exact .inl h
  · rw [List.getElem?_append_right (by omega)] at h
    by_cases hz : n - l.length = 0
    · rw [hz] at h
      exact .inr ⟨by omega, by simpa using h⟩
    · rw [List.getElem?_eq_none (by simp; omega)] at h
      cases h
theorem push_get {α : Type} {l : List α} {x y : α} {n : Nat} (h : l[n]? = some y) : (l ++ [x])[n]? = some y := by
  rw [List.getElem?_append_left (List.getElem?_eq_some_iff.mp h).1]; exact h
theorem push_last {α : Type} (l : List α) (x : α) : (l ++ [x])[l.length]? = some x := by simp
theorem MRel.own_push (m : MRel G M ι H) {o : SObj} {p b : Addr} (h : Own (M ++ [some o]) (ι ++ [p]) b) : Own M ι b ∨ b = p := by
  obtain ⟨n, u, h1, h2⟩ := h
  rcases get_push h1 with h1 | ⟨rfl, _⟩
  · have hn : n < ι.length := by rw [m.len]; exact (List.getElem?_eq_some_iff.mp h1).1
    rw [List.getElem?_append_left hn] at h2
    exact .inl ⟨n, u, h1, h2⟩
  · rw [← m.len, push_last] at h2
    exact .inr (Option.some.inj h2).symm
theorem Ext.push (m : MRel G M ι H) {o : SObj} {p : Addr} {u : HO} (hp : H p = none) : Ext M ι H (M ++ [some o]) (ι ++ [p]) (upd H p u) :=
  ⟨fun n a h => push_get h, fun a w h n => ⟨by rw [upd_ne (ne_of_none h hp)]; exact h, fun z => (m.own_push z).elim n fun e => by rw [e, hp] at h; cases h⟩⟩
theorem MRel.push (m : MRel G M ι H) {o : SObj} {p : Addr} {u : HO} (hp : H p = none) (r : ObRep G (ι ++ [p]) (upd H p u) (Own (M ++ [some o]) (ι ++ [p])) o p) : MRel G (M ++ [some o]) (ι ++ [p]) (upd H p u) := by
  refine ⟨fun z => upd_some (m.sa z), by simp [m.len], fun n k o1 o2 a h1 h2 h3 h4 => ?_, fun n w h => ?_⟩
  · have key : ∀ {n : Nat} {o1 : SObj} {a : Addr}, (M ++ [some o])[n]? = some (some o1) → (ι ++ [p])[n]? = some a → (M[n]? = some (some o1) ∧ ι[n]? = some a ∧ a ≠ p) ∨ (n = M.length ∧ a = p) := fun {n o1 a} h1 h3 => by
      rcases get_push h1 with h1 | ⟨rfl, _⟩
      · have hn : n < ι.length := by rw [m.len]; exact (List.getElem?_eq_some_iff.mp h1).1
        rw [List.getElem?_append_left hn] at h3
        obtain ⟨w, e⟩ := m.own_some ⟨n, o1, h1, h3⟩
        exact .inl ⟨h1, h3, ne_of_none e hp⟩
      · rw [← m.len, push_last] at h3
        exact .inr ⟨rfl, (Option.some.inj h3).symm⟩
    rcases key h1 h3 with ⟨a1, a2, a3⟩ | ⟨a1, a2⟩
    · rcases key h2 h4 with ⟨b1, b2, b3⟩ | ⟨b1, b2⟩
      · exact m.inj n k o1 o2 a a1 b1 a2 b2
      · exact absurd b2 a3
    · rcases key h2 h4 with ⟨b1, b2, b3⟩ | ⟨b1, b2⟩
      · exact absurd a2 b3
      · rw [a1, b1]
  · rcases get_push h with h | ⟨rfl, e⟩
    · obtain ⟨a, h1, h2⟩ := m.obj n w h
      obtain ⟨z, e⟩ := m.own_some ⟨n, w, h, h1⟩
      exact ⟨a, push_get h1, h2.ext (Ext.push m hp) (upd_ne (ne_of_none e hp))⟩
    · cases e
      exact ⟨p, by rw [← m.len]; exact push_last _ _, r⟩
theorem MRel.pushL (m : MRel G M ι H) {ps : List PV} {vs : List V} {p : Addr} (hp : H p = none) (hz : ps.length ≤ sizeLine) (r : Rps G ι H (Own M ι) ps vs) : MRel G (M ++ [some (.lst ps)]) (ι ++ [p]) (upd H p (.lst vs)) :=
  m.push hp ⟨vs, upd_same, hz, r.ext (Ext.push m hp)⟩
/-- an object of the store is written -/
theorem own_set {M : Store} {n : Nat} {o o' : SObj} (hn : M[n]? = some (some o)) {b : Addr} : Own (M.set n (some o')) ι b ↔ Own M ι b := by
  have hl : n < M.length := (List.getElem?_eq_some_iff.mp hn).1
  constructor
  · rintro ⟨k, u, h1, h2⟩
    by_cases hk : n = k
    · subst hk
      exact ⟨n, o, hn, h2⟩
    · rw [List.getElem?_set_ne hk] at h1
      exact ⟨k, u, h1, h2⟩
  · rintro ⟨k, u, h1, h2⟩
    by_cases hk : n = k
    · subst hk
      exact ⟨n, o', List.getElem?_set_self hl, h2⟩
    · exact ⟨k, u, by rw [List.getElem?_set_ne hk]; exact h1, h2⟩
theorem own_setF {M : Store} {ι : List Addr} {n : Nat} {o o' : SObj} (hn : M[n]? = some (some o)) : Own (M.set n (some o')) ι = Own M ι := funext fun _ => propext (own_set hn)
theorem Ext.write {n : Nat} {o o' : SObj} {a : Addr} {u : HO} (hn : M[n]? = some (some o)) (ha : ι[n]? = some a) : Ext M ι H (M.set n (some o')) ι (upd H a u) :=
  ⟨fun _ _ h => h, fun b w h hb => ⟨by rw [upd_ne (fun z => hb ⟨n, o, hn, by rw [z]; exact ha⟩)]; exact h, fun z => hb ((own_set hn).mp z)⟩⟩
theorem MRel.write (m : MRel G M ι H) {n : Nat} {o o' : SObj} {a : Addr} {u : HO} (hn : M[n]? = some (some o)) (ha : ι[n]? = some a) (r : ObRep G ι (upd H a u) (Own M ι) o' a) : MRel G (M.set n (some o')) ι (upd H a u) := by
  have hl : n < M.length := (List.getElem?_eq_some_iff.mp hn).1
  refine ⟨fun z => upd_some (m.sa z), by simp [m.len], fun i k o1 o2 b h1 h2 h3 h4 => ?_, fun i w h => ?_⟩
  · have key : ∀ {i : Nat} {o1 : SObj}, (M.set n (some o'))[i]? = some (some o1) → ∃ o2, M[i]? = some (some o2) := fun {i o1} h1 => by
      by_cases hk : n = i
      · subst hk; exact ⟨o, hn⟩
      · rw [List.getElem?_set_ne hk] at h1; exact ⟨o1, h1⟩
    obtain ⟨_, k1⟩ := key h1
    obtain ⟨_, k2⟩ := key h2
    exact m.inj i k _ _ b k1 k2 h3 h4
  · rw [own_setF hn]
    by_cases hk : n = i
    · subst hk
      rw [List.getElem?_set_self hl] at h
      cases h
      exact ⟨a, ha, r⟩
    · rw [List.getElem?_set_ne hk] at h
      obtain ⟨b, h1, h2⟩ := m.obj i w h
      have hne : b ≠ a := fun z => hk (m.inj n i o w b hn h (z ▸ ha) h1)
      have e := Ext.write (H := H) (u := u) (o' := o') hn ha
      have h3 := h2.ext e (upd_ne hne)
      rw [own_setF hn] at h3
      exact ⟨b, h1, h3⟩
theorem MRel.writeL (m : MRel G M ι H) {n : Nat} {xs ys : List PV} {ws : List V} {a : Addr} (hn : M[n]? = some (some (.lst xs))) (ha : ι[n]? = some a) (hz : ys.length ≤ sizeLine) (r : Rps G ι H (Own M ι) ys ws) : MRel G (M.set n (some (.lst ys))) ι (upd H a (.lst ws)) := by
  have h := Rps.ext (Ext.write (H := H) (u := .lst ws) (o' := .lst ys) hn ha) _ _ r
  rw [own_setF hn] at h
  exact m.write hn ha ⟨ws, upd_same, hz, h⟩
/-- an object of the store is let go -/
theorem own_drop {M : Store} {n : Nat} {b : Addr} (h : Own (M.set n none) ι b) : ∃ k u, k ≠ n ∧ M[k]? = some (some u) ∧ ι[k]? = some b := by
  obtain ⟨k, u, h1, h2⟩ := h
  by_cases hk : n = k
  · subst hk
    by_cases hl : n < M.length
    · rw [List.getElem?_set_self hl] at h1; cases h1
    · rw [List.getElem?_eq_none (by simpa using hl)] at h1; cases h1
  · rw [List.getElem?_set_ne hk] at h1
    exact ⟨k, u, Ne.symm hk, h1, h2⟩
theorem Ext.drop {n : Nat} : Ext M ι H (M.set n none) ι H :=
  ⟨fun _ _ h => h, fun b w h hb => ⟨h, fun z => let ⟨k, u, _, h1, h2⟩ := own_drop z; hb ⟨k, u, h1, h2⟩⟩⟩
theorem MRel.drop (m : MRel G M ι H) (n : Nat) : MRel G (M.set n none) ι H := by
  have key : ∀ {i : Nat} {o1 : SObj}, (M.set n none)[i]? = some (some o1) → M[i]? = some (some o1) := fun {i o1} h1 => by
    by_cases hk : n = i
    · subst hk
      by_cases hl : n < M.length
      · rw [List.getElem?_set_self hl] at h1; cases h1
      · rw [List.getElem?_eq_none (by simpa using hl)] at h1; cases h1
    · rw [List.getElem?_set_ne hk] at h1; exact h1
  refine ⟨m.sa, by simp [m.len], fun i k o1 o2 b h1 h2 h3 h4 => m.inj i k _ _ b (key h1) (key h2) h3 h4, fun i w h => ?_⟩
  obtain ⟨b, h1, h2⟩ := m.obj i w (key h)
  exact ⟨b, h1, h2.ext Ext.drop rfl⟩
end
section
variable {T : Tab} {G : Gd} {Γ : Fns} {W : WX} {X : Cx} {pos : Pos} {a b c : PySem.Expr} {ca cb cc : Ev PV}
theorem se_lstR {es : List PySem.Expr} {cr : Ev (List PV)} (h : PA X es (LA G W cr)) : PE X (.List es pos) (LE G W fun sp M => (cr sp M).bind fun ps M1 => if ps.length ≤ sizeLine then .ok (.ref M1.length) (M1 ++ [some (.lst ps)]) else .bad) :=
  (pe_lst h).w fun σ H Q h => by
    obtain ⟨M, ι, sp, m, s, post⟩ := h
    refine ⟨M, ι, sp, m, s, PostA.bind post fun ps M1 ι1 H1 vs m1 e1 r1 post1 => ?_⟩
    split at post1
    · rename_i hz
      exact ⟨by rw [← r1.length]; exact hz, fun p hp => post1 _ _ _ (m1.pushL hp hz r1) (Ext.push m1 hp) (.ref (by rw [← m1.len]; exact push_last _ _))⟩
    · exact post1.elim
theorem se_frz {i : Nat} {x : Str} (hN : X.N[i]? = some x) (hv : Vis X.env.scope x) (hd : dbgB x = true) : PE X (.Name x pos) (LE G W (ev T Γ (.frz i))) := by
  refine (pe_var hN hv (dbg1 hd) (dbg2 hd)).w fun σ H Q h => ?_
  obtain ⟨M, ι, sp, m, s, post⟩ := h
  simp only [ev] at post
  split at post
  · rename_i n hp
    obtain ⟨v, h1, h2⟩ := s.at_ i _ hp
    split at post
    · rename_i xs hx
      obtain ⟨a, vs, rfl, k1, k2, k3, k4, k5⟩ := m.lstAt hx h2
      refine ⟨_, h1, post ι H _ (m.drop n) Ext.drop (.lst ⟨k3, fun z => ?_⟩ k4 (k5.ext Ext.drop))⟩
      obtain ⟨k, u, hk, q1, q2⟩ := own_drop z
      exact hk (m.inj k n u _ a q1 k2 q2 k1)
    · exact post.elim
  · exact post.elim
/-! ### slices, calls -/
def LO (G : Gd) (W : WX) (c : Ev (Option Int)) : TO := fun σ H Q => ∃ M ι sp, MRel G M ι H ∧ SRep G M ι H sp σ ∧ match c sp M with
  | .ok o M' => ∀ ι' H', MRel G M' ι' H' → Ext M ι H M' ι' H' → Q o H'
  | .exc x M' => ∀ ι' H' cv d, MRel G M' ι' H' → Ext M ι H M' ι' H' → XRep G ι' H' (Own M' ι') x cv d → W cv d σ H'
  | .bad => False
theorem so_none : PO X none (LO G W fun _ M => .ok none M) := ⟨fun pins s σ H Q I h => by
  obtain ⟨M, ι, sp, m, s', post⟩ := h
  exact po_none.run pins s σ H Q I (post ι H m .refl)⟩
theorem so_some (ha : PE X a (LE G W ca)) : PO X (some a) (LO G W fun sp M => (ca sp M).bind fun p M1 => match p with | .int n => .ok (some n) M1 | _ => .bad) := ⟨fun pins s σ H Q I h => by
  obtain ⟨M, ι, sp, m, s', post⟩ := h
  dsimp only at post
  refine (po_some ha).run pins s σ H Q I ⟨M, ι, sp, m, s', ?_⟩
  cases e : ca sp M with
  | ok p M1 =>
    rw [e] at post
    intro ι1 H1 v m1 e1 r1
    cases p with
    | int n => cases r1; exact ⟨n, rfl, post ι1 H1 m1 e1⟩
    | _ => exact post.elim
  | exc x M1 =>
    rw [e] at post
    exact post
  | bad =>
    rw [e] at post
    exact post⟩
theorem se_slc (hK : X.K = G.K) {lo hi : Option PySem.Expr} {cl ch : Ev (Option Int)} {p2 : Pos} (ha : PE X a (LE G W ca)) (hl : PO X lo (LO G W cl)) (hh : PO X hi (LO G W ch)) :
    PE X (.Subscript a (.Slice lo hi none p2) pos) (LE G W fun sp M => (ca sp M).bind fun p M1 => (cl sp M1).bind fun l M2 => (ch sp M2).bind fun h M3 => .ofO (slcP M3 p l h) M3) := by
  refine (pe_slice (pr_slc hK) ha hl hh).w fun σ H Q h => ?_
  obtain ⟨M, ι, sp, m, s, post⟩ := h
  refine ⟨M, ι, sp, m, s, post.bind fun p M1 ι1 H1 v m1 e1 r1 post1 => ⟨M1, ι1, sp, m1, s.ext e1, ?_⟩⟩
  cases e : cl sp M1 with
  | bad => rw [e] at post1; exact post1
  | exc x M2 => rw [e] at post1; exact post1
  | ok l M2 =>
    rw [e] at post1
    intro ι2 H2 m2 e2
    have post2 := PostE.from (r := (ch sp M2).bind fun h M3 => .ofO (slcP M3 p l h) M3) post1 e2
    refine ⟨M2, ι2, sp, m2, (s.ext e1).ext e2, ?_⟩
    cases e' : ch sp M2 with
    | bad => rw [e'] at post2; exact post2
    | exc x M3 => rw [e'] at post2; exact post2
    | ok h M3 =>
      rw [e'] at post2
      intro ι3 H3 m3 e3
      have post3 := PostE.from (r := .ofO (slcP M3 p l h) M3) post2 e3
      exact ⟨M3, ι3, p, m3, (r1.ext e2).ext e3, post3.ofO⟩
theorem SFn {G : Gd} {Γ : Fns} {X : Cx} {k : Nat} (hf : ∀ (f : Nat) (x : Str) (a : Addr), G.fnm f = some x → G.mg x = some (.ref a) → FnD X.prog X.w X.K X.mg X.base k a (spD G (Γ f))) :
    ∀ (a : Addr) (sp : Sp), (∃ f x, G.fnm f = some x ∧ G.mg x = some (.ref a) ∧ sp = spD G (Γ f)) → FnD X.prog X.w X.K X.mg X.base k a sp := fun a sp ⟨f, x, h1, h2, e⟩ => by
  subst e
  exact hf f x a h1 h2
theorem se_callAny {x : Str} {p : Pos} {es : List PySem.Expr} {k : Nat} {cf : Ev PV} {cr : Ev (List PV)} (hr : RoomG k X.A) (tk : Takes X W)
    (hf : ∀ (f : Nat) (x : Str) (a : Addr), G.fnm f = some x → G.mg x = some (.ref a) → FnD X.prog X.w X.K X.mg X.base k a (spD G (Γ f)))
    (hx : PE X (.Name x p) (LE G W cf)) (ha : PA X es (LA G W cr)) (hns : es.all notStar = true) (h0 : es = [] → ∀ sp M, cr sp M = .ok [] M) :
    PE X (.Call (.Name x p) es [] pos) (LE G W fun sp M => (cf sp M).bind fun v M0 => match v with
      | .fn f => (cr sp M0).bind fun ps M1 => Γ f ps M1
      | _ => .bad) := by
  cases es with
  | nil =>
    refine (pe_callD0 (SFn hf) hr tk hx).w fun σ H Q h => ?_
    obtain ⟨M, ι, sp, m, s, post⟩ := h
    refine ⟨M, ι, sp, m, s, post.bind fun v M1 ι1 H1 u m1 e1 r1 post1 => ?_⟩
    cases v with
    | fn f =>
      cases r1 with
      | fn g1 g2 =>
        rw [h0 rfl] at post1
        exact ⟨_, _, rfl, ⟨f, _, g1, g2, rfl⟩, M1, ι1, [], m1, .nil, PostF.ofE (W := W) (σ := σ) post1⟩
    | _ => exact post1.elim
  | cons e es =>
    refine (pe_callD (SFn hf) hr tk hx ha hns).w fun σ H Q h => ?_
    obtain ⟨M, ι, sp, m, s, post⟩ := h
    refine ⟨M, ι, sp, m, s, post.bind fun v M1 ι1 H1 u m1 e1 r1 post1 => ?_⟩
    cases v with
    | fn f =>
      cases r1 with
      | fn g1 g2 =>
        exact ⟨_, _, rfl, ⟨f, _, g1, g2, rfl⟩, M1, ι1, sp, m1, s.ext e1, PostA.bind post1 fun ps M2 ι2 H2 vs m2 e2 r2 post2 => ⟨M2, ι2, ps, m2, r2, PostF.ofE (W := W) (σ := σ) post2⟩⟩
    | _ => exact post1.elim
end
end DI
set_option maxHeartbeats 2000000
/-! # DI: what is walked: lists, tuples, texts; enumerate and zip of them -/
namespace DI
open PySem PySem.Spec L2
open PyProof.Rows hiding St

/-! ### enumerate(v) -/
set_option maxHeartbeats 4000000 in
theorem meets_enumerate_newB1 {v : Value} {o : Obj} {H : Heap → Prop} (B : Begins v o H) :
    Meets (Builtin.«enumerate.__new__» ⟨[.type "enumerate", v], []⟩) (fun _ R s => H s.heap ∧
      R (.ok (.ret (.ref (s.heap.push o).objs.size))) { s with heap := (s.heap.push o).push { cls := .type "enumerate", data := .fields #[.none, .bool false, .ref s.heap.objs.size, rawInt 0, .none, .none] } }) :=
  .of_wp fun prog w A R s h => by
    obtain ⟨hp, g, d, tk, os⟩ := s; obtain ⟨h1, h⟩ := h
    have hsub := sub_enumerate
    have q1 : ∀ {A' : Around} {E : Value → Shared → Prop} {Q : Value → Shared → Prop}, Q (.ref hp.objs.size) ⟨hp.push o, g, d, tk, os⟩ → wpAny (model prog w) A' (pyIter v) Q E ⟨hp, g, d, tk, os⟩ :=
      fun q => B.iter prog w _ _ ⟨hp, g, d, tk, os⟩ _ h1 q
    wp_walk using q1
    refine wpAny_stack_any fun st => wpAny_pure ?_
    split
    · rename_i c _ _ _ _ _
      cases (c == Value.type "enumerate")
      · wp_walk using q1
        exact ⟨_, rfl, h⟩
      · wp_walk using q1
        exact ⟨_, rfl, h⟩
    · wp_walk using q1
      exact ⟨_, rfl, h⟩
section
variable {prog : Program} {w : World} {A : Around} {E : Value → Shared → Prop} {s : Shared}
theorem enum_begins1 {v : Value} {o : Obj} {H : Heap → Prop} {Q : Value → Shared → Prop} (B : Begins v o H) (h1 : H s.heap)
    (h : ∀ h', IsEnum h' (s.heap.objs.size + 1) s.heap.objs.size 0 .none → h'.get? s.heap.objs.size = some o → h'.objs.size = s.heap.objs.size + 2 →
      (∀ b o, s.heap.get? b = some o → h'.get? b = some o) → Q (.ref (s.heap.objs.size + 1)) { s with heap := h' }) :
    wpAny (model prog w) A (call (.type "enumerate") [v]) Q E s := by
  refine callType_new F.called_enumerate (by decide) (F.typeCall_enumerate_1 _) (F.newCall_enumerate_1 _) (fun obj => F.args_object_init_2 obj _) F.entry_enumerate_new
    (meets_enumerate_newB1 B) ⟨h1, ?_⟩
  have hz : (s.heap.push o).objs.size = s.heap.objs.size + 1 := Heap.size_push ..
  show _ ∧ _
  rw [hz]
  have he : IsEnum ((s.heap.push o).push { cls := .type "enumerate", data := .fields #[.none, .bool false, .ref s.heap.objs.size, rawInt 0, .none, .none] }) (s.heap.objs.size + 1) s.heap.objs.size 0 .none := by
    have := Heap.get?_push_size (s.heap.push o) (o := { cls := .type "enumerate", data := .fields #[.none, .bool false, .ref s.heap.objs.size, rawInt 0, .none, .none] }) rfl
    rw [hz] at this; exact this
  refine ⟨⟨_, he, rfl⟩, h _ he (Heap.get?_push_of_some _ (Heap.get?_push_size _ B.free)) (by rw [Heap.size_push, hz]) fun b o x => Heap.get?_push_of_some _ (Heap.get?_push_of_some _ x)⟩
end

/-! ### sources -/
inductive Src where
  | l (a : Addr) | t (a : Addr) | s (x : Str)
def Src.base : Src → List Addr
  | .l a => [a] | .t a => [a] | .s _ => []
def Src.v : Src → V
  | .l a => .ref a | .t a => .ref a | .s x => .str x
/-- what it holds -/
def Src.has (K : PySem.W.Frag) (H : Hp) : Src → List V → Prop
  | .l a, xs => SqL K H a xs
  | .t a, xs => SqT K H a xs
  | .s x, xs => xs = x.cps.toList.map fun c => .str ⟨#[c]⟩
/-- its iterator at b -/
def Src.it (b : Addr) (i : Nat) (h : Heap) : Src → Prop
  | .l a => h.IsListIter b a i
  | .t a => h.IsTupleIter b a i
  | .s x => ∃ t, h.IsStrIter b (strIterType x) x t i
section
variable {X : Cx} {pins : List (Addr × Obj)} {σ : St} {H : Hp} {s : Shared}
theorem Src.inj (I : Inv X pins σ H s) : ∀ {S : Src} {xs ys : List V}, S.has X.K H xs → S.has X.K H ys → xs = ys
  | .l _, _, _, h, k => I.list_inj h k
  | .t _, _, _, h, k => I.tuple_inj h k
  | .s _, _, _, h, k => h.trans k.symm
theorem Src.now (I : Inv X pins σ H s) (hc : X.calm = true) {b : Addr} {i : Nat} : ∀ {S : Src} {xs : List V}, S.has X.K H xs → b ∉ S.base → S.it b i s.heap →
    ∃ P St, Draws X.prog X.w X.A.in1 b (b :: S.base) xs.length P St ∧ St i s.heap ∧ (∀ j h, St j h → S.it b j h) ∧ ∀ j u, P j u → ∃ v, xs[j]? = some v ∧ RelV v u
  | .l a, xs, h, hb, hi => by
    obtain ⟨its, rv, p, hz⟩ := I.list h
    have D := Draws.list (prog := X.prog) (w := X.w) (A := X.A.in1) (show X.A.in1.handled = none from I.ok.hd hc) b a (fun e => hb (by simp [Src.base, e])) its.toArray
    have hl : its.toArray.size = xs.length := by simpa using rv.length.symm
    rw [hl] at D
    refine ⟨_, _, D, ⟨hi, p.isList⟩, fun j h st => st.1, fun j u hu => ?_⟩
    have hlt : j < xs.length := by
      have := (Array.getElem?_eq_some_iff.mp hu).1
      omega
    obtain ⟨u', e1, e2⟩ := rv.get (List.getElem?_eq_getElem hlt)
    have e3 : some u = some u' := by rw [← hu]; simpa using e1
    cases e3
    exact ⟨_, List.getElem?_eq_getElem hlt, e2⟩
  | .t a, xs, h, hb, hi => by
    obtain ⟨its, rv, p, hz⟩ := I.tuple h
    have D := Draws.tuple (prog := X.prog) (w := X.w) (A := X.A.in1) (show X.A.in1.handled = none from I.ok.hd hc) b a (fun e => hb (by simp [Src.base, e])) its.toArray
    have hl : its.toArray.size = xs.length := by simpa using rv.length.symm
    rw [hl] at D
    refine ⟨_, _, D, ⟨hi, p⟩, fun j h st => st.1, fun j u hu => ?_⟩
    have hlt : j < xs.length := by
      have := (Array.getElem?_eq_some_iff.mp hu).1
      omega
    obtain ⟨u', e1, e2⟩ := rv.get (List.getElem?_eq_getElem hlt)
    have e3 : some u = some u' := by rw [← hu]; simpa using e1
    cases e3
    exact ⟨_, List.getElem?_eq_getElem hlt, e2⟩
  | .s x, xs, h, hb, hi => by
    obtain ⟨t, hi⟩ := hi
    have D := Draws.text (prog := X.prog) (w := X.w) (A := X.A.in1) (show X.A.in1.handled = none from I.ok.hd hc) b x t
    have h : xs = _ := h
    have hl : x.cps.size = xs.length := by rw [h]; simp
    rw [hl] at D
    refine ⟨_, _, D, hi, fun j h st => ⟨t, st⟩, fun j u ⟨c, t', hu, e⟩ => ?_⟩
    subst e h
    exact ⟨.str ⟨#[c]⟩, by simp [hu], t', rfl⟩
theorem Src.begins (I : Inv X pins σ H s) : ∀ {S : Src} {xs : List V} {u : Value}, S.has X.K H xs → RelV S.v u →
    ∃ o Hq, Begins u o Hq ∧ Hq s.heap ∧ (∀ h b, h.get? b = some o → S.it b 0 h) ∧ ∀ a ∈ S.base, a < s.heap.objs.size
  | .l a, xs, u, h, r => by
    cases r
    obtain ⟨its, rv, p, hz⟩ := I.list h
    exact ⟨_, _, begins_list a its.toArray, p.isList, fun h b e => ⟨_, e, rfl, rfl⟩, fun c hc => by
      have e : c = a := by simpa [Src.base] using hc
      rw [e]; exact p.lt⟩
  | .t a, xs, u, h, r => by
    cases r
    obtain ⟨its, rv, p, hz⟩ := I.tuple h
    exact ⟨_, _, begins_tuple a its.toArray, p, fun h b e => ⟨_, e, rfl, rfl⟩, fun c hc => by
      have e : c = a := by simpa [Src.base] using hc
      obtain ⟨o, ho, _⟩ := id p
      rw [e]; exact Heap.lt_size ho⟩
  | .s x, xs, u, h, r => by
    obtain ⟨t, rfl⟩ := r
    exact ⟨_, _, begins_text x t, trivial, fun h b e => ⟨t, _, e, rfl, rfl⟩, fun c hc => by simp [Src.base] at hc⟩
theorem Src.at_ {b : Addr} {i : Nat} {h h' : Heap} : ∀ {S : Src}, S.it b i h → (∀ o, h.get? b = some o → h'.get? b = some o) → S.it b i h'
  | .l _, st, k => Heap.IsListIter.at st fun o e => k o e
  | .t _, st, k => Heap.IsTupleIter.at st fun o e => k o e
  | .s _, st, k => let ⟨tk, o, ho, r⟩ := st; ⟨tk, o, k o ho, r⟩
theorem Src.obj {b : Addr} {i : Nat} {h : Heap} : ∀ {S : Src}, S.it b i h → ∃ o, h.get? b = some o ∧ ∀ v, o.data ≠ .cell v
  | .l _, st => let ⟨o, e, _, d⟩ := st; ⟨o, e, fun v q => by rw [d] at q; cases q⟩
  | .t _, st => let ⟨o, e, _, d⟩ := st; ⟨o, e, fun v q => by rw [d] at q; cases q⟩
  | .s _, st => let ⟨tk, o, e, _, d⟩ := st; ⟨o, e, fun v q => by rw [d] at q; cases q⟩
end
/-- enumerate(S) -/
def ItE (K : PySem.W.Frag) (S : Src) : It :=
  ⟨fun i H => ∃ (xs : List V) (x : V), S.has K H xs ∧ xs[i]? = some x, fun i H v H' => ∃ T x, v = .ref T ∧ H T = none ∧ H' = upd H T (.tup [.int (i : Nat), x]) ∧ ∀ xs, S.has K H xs → xs[i]? = some x, fun i H => ∃ xs : List V, S.has K H xs ∧ xs.length = i⟩
theorem turn_enumS {P : Program} {w : World} {K : PySem.W.Frag} {elts : List PySem.Expr} {kk : Nat} {tpos : Pos} (S : Src) (N : Nat) (hb : ∀ a ∈ S.base, a < N) :
    Turn P w K (.Tuple elts kk tpos) (ItE K S) [N + 1, N] (N + 1) (fun i h => (∃ old, IsEnum h (N + 1) N ((i : Nat) : Int) old) ∧ S.it N i h) where
  mem := by simp
  obj := fun i h st b hb => by
    obtain ⟨⟨old, he⟩, hi⟩ := st
    have e' : b = N + 1 ∨ b = N := by simpa using hb
    rcases e' with z | z
    · rw [z]; exact ⟨_, he, fun v q => nomatch q⟩
    · rw [z]; exact Src.obj hi
  keep := fun i h h' st k => let ⟨⟨old, he⟩, hi⟩ := st; ⟨⟨old, k (N + 1) (by simp) _ he⟩, Src.at_ hi fun o q => k N (by simp) o q⟩
  item := by
    intro X hP hw hK hc i pins s σ H E I hf st hg
    subst hP hw hK
    obtain ⟨⟨old, he⟩, hit⟩ := st
    obtain ⟨xs, x, hq, hx⟩ := hg
    have nb : N ∉ S.base := fun z => Nat.lt_irrefl _ (hb _ z)
    have nb1 : N + 1 ∉ N :: S.base := fun z => by
      rcases List.mem_cons.mp z with z | z
      · exact absurd z (Nat.succ_ne_self N)
      · exact absurd (Nat.lt_of_succ_lt (hb _ z)) (Nat.lt_irrefl _)
    obtain ⟨Pt, St, D, st1, ha, hPt⟩ := Src.now I hc hq nb hit
    have hel : N + 1 < s.heap.objs.size := Heap.lt_size he
    have hlt : i < xs.length := (List.getElem?_eq_some_iff.mp hx).1
    refine wpAny_pyNext_enum_itemC D he st1 hlt (Nat.succ_ne_self N) nb1 fun u h' tk hu ho st' hT hsz hk => ?_
    obtain ⟨x', hx', ru⟩ := hPt _ _ hu
    rw [hx] at hx'
    cases hx'
    refine ⟨_, rfl, wpAny_letOwnedTupleGo_enum (s := { s with heap := h', toks := tk + 1 }) ho fun h'' he' sb => ?_⟩
    have hT2 : h''.get? s.heap.objs.size = some { cls := .type "tuple", data := .seq #[.int i tk, u] } := (sb.2 _ (Nat.ne_of_gt hel)).trans hT
    have new : ObjOk X.prog X.w (upd H s.heap.objs.size (.tup [.int (i : Nat), x])) h'' s.heap.objs.size (.tup [.int (i : Nat), x]) :=
      ⟨by show 2 ≤ sizeLine; decide, [.int i tk, u], .cons ⟨_, rfl⟩ (.cons ru .nil), ⟨_, hT2, rfl, _, rfl⟩⟩
    have I1 : Inv X pins σ (upd H s.heap.objs.size (.tup [.int (i : Nat), x])) { s with heap := h'', toks := tk + 1 } :=
      I.turnedNew (ch := [N + 1, N]) (fun b ob hb q => (sb.2 b (fun z => hb (by simp [z]))).trans (hk b ob (fun z => hb (by simp [z])) (fun z => hb (by simp [z])) q)) hf (Nat.le_refl _) new
    refine ⟨.ref s.heap.objs.size, _, I1, rfl, ⟨_, x, rfl, I.hok.fresh (Nat.le_refl _), rfl, fun ys hy => by rw [Src.inj I hy hq]; exact hx⟩, ⟨⟨u, ?_⟩, ha _ _ (D.over st' sb nb1)⟩, fun b hb => ?_⟩
    · have e1 : ((i + 1 : Nat) : Int) = (i : Int) + 1 := by omega
      rw [e1]; exact he'
    · have hb' : b < s.heap.objs.size := by
        have e' : b = N + 1 ∨ b = N := by simpa using hb
        rcases e' with z | z
        · rw [z]; exact hel
        · rw [z]; exact Nat.lt_of_succ_lt hel
      rw [upd_ne (Nat.ne_of_lt hb')]
      exact (hf b hb).1
  done := by
    intro X hP hw hK hc i pins s σ H E I hf st hg
    subst hP hw hK
    obtain ⟨⟨old, he⟩, hit⟩ := st
    obtain ⟨xs, hq, hx⟩ := hg
    have nb : N ∉ S.base := fun z => Nat.lt_irrefl _ (hb _ z)
    obtain ⟨Pt, St, D, st1, ha, hPt⟩ := Src.now I hc hq nb hit
    obtain ⟨f0, f1, f2, f3, f4, f5⟩ := hf N (by simp)
    subst hx
    exact wpAny_pyNext_enum_endD D he st1 fun h' eb => ⟨rfl, I.turned (t' := s.toks) (fun b o hb q => eb b o hb q) f0 f1 f3 f4 f5⟩
  self := fun A i s Q E st h => let ⟨⟨_, he⟩, _⟩ := st; wpAny_pyIter_enum he h
def iEnumS (K : PySem.W.Frag) (ta : TA) : TI := fun σ H R => ta σ H fun vs H1 => ∃ (S : Src) (xs : List V), vs = [S.v] ∧ S.has K H1 xs ∧ R (ItE K S) H1
theorem pi_enumS {X : Cx} {e : PySem.Expr} {ta : TA} {p pos tpos : Pos} {elts : List PySem.Expr} {kk : Nat} (hg : Gl X "enumerate") (hm : X.mg "enumerate" = none) (ha : PA X [e] ta) (hs : starEach [e] X.env = [(false, eval e X.env)]) :
    PI X (.Tuple elts kk tpos) (.Call (.Name "enumerate" p) [e] [] pos) (iEnumS X.K ta) := by
  refine ⟨fun pins s σ H R I h => ?_⟩
  refine Call_ (ld_blt I hg hm boot_enumerate (PyProof.Rows.callWith_type1 (thn (ha.run pos pins s σ H _ I h) fun us s1 ⟨vs, H1, I1, r1, q1⟩ => ?_) hs rfl))
  obtain ⟨S, xs, ex, hq, q⟩ := q1
  subst ex
  cases r1 with
  | cons r rr =>
    cases rr
    obtain ⟨o, Hq, B, hB, hat, hlt⟩ := Src.begins I1 hq r
    refine enum_begins1 B hB fun h' he hit hsz hk => wpAny_pyIter_enum he ?_
    have I2 : Inv X pins σ H1 { s1 with heap := h' } := I1.kept (t' := s1.toks) hk
    refine ⟨s1.heap.objs.size + 1, [s1.heap.objs.size + 1, s1.heap.objs.size], _, _, H1, rfl, I2, turn_enumS S s1.heap.objs.size hlt, ⟨⟨.none, he⟩, hat _ _ hit⟩, fun b hb => ?_, q⟩
    have e' : b = s1.heap.objs.size + 1 ∨ b = s1.heap.objs.size := by simpa using hb
    have hle : s1.heap.objs.size ≤ b := by
      rcases e' with z | z
      · rw [z]; exact Nat.le_add_right _ _
      · rw [z]; exact Nat.le_refl _
    exact I1.fpOk hle (I1.hok.fresh hle)
/-- zip(S, S') -/
def ItZ (K : PySem.W.Frag) (S S' : Src) : It :=
  ⟨fun i H => ∃ (xs ys : List V) (x y : V), S.has K H xs ∧ S'.has K H ys ∧ xs[i]? = some x ∧ ys[i]? = some y,
    fun i H v H' => ∃ T x y, v = .ref T ∧ H T = none ∧ H' = upd H T (.tup [x, y]) ∧ (∀ xs, S.has K H xs → xs[i]? = some x) ∧ ∀ ys, S'.has K H ys → ys[i]? = some y,
    fun i H => ∃ xs ys : List V, S.has K H xs ∧ S'.has K H ys ∧ i ≤ xs.length ∧ i ≤ ys.length ∧ (i = xs.length ∨ i = ys.length)⟩
theorem turn_zipS {P : Program} {w : World} {K : PySem.W.Frag} {elts : List PySem.Expr} {kk : Nat} {tpos : Pos} (S S' : Src) (N : Nat) (hb : ∀ a ∈ S.base, a < N) (hb' : ∀ a ∈ S'.base, a < N) :
    Turn P w K (.Tuple elts kk tpos) (ItZ K S S') [N + 4, N + 2, N + 3, N, N + 1] (N + 4) (fun i h => IsZip h (N + 4) (N + 2) (N + 3) .none ∧ IsTupOf2 h (N + 2) (.ref N) (.ref (N + 1)) ∧ (∃ x y, IsTupOf2 h (N + 3) x y) ∧ S.it N i h ∧ S'.it (N + 1) i h) where
  mem := by simp
  obj := fun i h st c hc => by
    obtain ⟨hz, hTI, ⟨x, y, hTO⟩, h1, h2⟩ := st
    have e' : c = N + 4 ∨ c = N + 2 ∨ c = N + 3 ∨ c = N ∨ c = N + 1 := by simpa using hc
    rcases e' with q | q | q | q | q
    · rw [q]; exact ⟨_, hz, fun v q => nomatch q⟩
    · rw [q]; exact ⟨_, hTI, fun v q => nomatch q⟩
    · rw [q]; exact ⟨_, hTO, fun v q => nomatch q⟩
    · rw [q]; exact Src.obj h1
    · rw [q]; exact Src.obj h2
  keep := fun i h h' st k => by
    obtain ⟨hz, hTI, ⟨x, y, hTO⟩, h1, h2⟩ := st
    exact ⟨k (N + 4) (by simp) _ hz, k (N + 2) (by simp) _ hTI, ⟨x, y, k (N + 3) (by simp) _ hTO⟩, Src.at_ h1 fun o q => k N (by simp) o q, Src.at_ h2 fun o q => k (N + 1) (by simp) o q⟩
  item := by
    intro X hP hw hK hc i pins s σ H E I hf st hg
    subst hP hw hK
    obtain ⟨hz, hTI, ⟨x0, y0, hTO⟩, h1, h2⟩ := st
    obtain ⟨xs, ys, x, y, hqx, hqy, hx, hy⟩ := hg
    have sep := zip_sep2 hb hb'
    have nb : N ∉ S.base := fun z => Nat.lt_irrefl _ (hb _ z)
    have nb' : N + 1 ∉ S'.base := fun z => absurd (Nat.lt_of_succ_lt (hb' _ z)) (Nat.lt_irrefl _)
    obtain ⟨P1, St1, D1, st1, ha1, hP1⟩ := Src.now I hc hqx nb h1
    obtain ⟨P2, St2, D2, st2, ha2, hP2⟩ := Src.now I hc hqy nb' h2
    have hzl : N + 4 < s.heap.objs.size := Heap.lt_size hz
    refine wpAny_pyNext_zipD2_item sep D1 D2 hz hTI hTO st1 st2 (List.getElem?_eq_some_iff.mp hx).1 (List.getElem?_eq_some_iff.mp hy).1 fun u u2 h' tk pu pu2 z' TO' h1' h2' hT hsz hk => ?_
    obtain ⟨x', hx', ru⟩ := hP1 _ _ pu
    rw [hx] at hx'
    cases hx'
    obtain ⟨y', hy', ru2⟩ := hP2 _ _ pu2
    rw [hy] at hy'
    cases hy'
    refine ⟨_, rfl, wpAny_letOwnedTupleGo_zip (s := { s with heap := h', toks := tk }) z' fun h'' z'' sb => ?_⟩
    have hT2 : h''.get? s.heap.objs.size = some { cls := .type "tuple", data := .seq #[u, u2] } := (sb.2 _ (Nat.ne_of_gt hzl)).trans hT
    have new : ObjOk X.prog X.w (upd H s.heap.objs.size (.tup [x, y])) h'' s.heap.objs.size (.tup [x, y]) :=
      ⟨by show 2 ≤ sizeLine; decide, [u, u2], .cons ru (.cons ru2 .nil), ⟨_, hT2, rfl, _, rfl⟩⟩
    have I1 : Inv X pins σ (upd H s.heap.objs.size (.tup [x, y])) { s with heap := h'', toks := tk } :=
      I.turnedNew (t' := tk) (ch := [N + 4, N + 2, N + 3, N, N + 1]) (fun c o hb q => (sb.2 c (fun q' => hb (by simp [q']))).trans (hk c o (fun q' => hb (by simp [q'])) (fun q' => hb (by simp [q'])) (fun q' => hb (by simp [q'])) (fun q' => hb (by simp [q'])) q)) hf (Nat.le_refl _) new
    refine ⟨.ref s.heap.objs.size, _, I1, rfl, ⟨_, x, y, rfl, I.hok.fresh (Nat.le_refl _), rfl, fun l hl => by rw [Src.inj I hl hqx]; exact hx, fun l hl => by rw [Src.inj I hl hqy]; exact hy⟩, ⟨z'', ?_, ⟨u, u2, ?_⟩, ?_, ?_⟩, fun c hcm => ?_⟩
    · exact (sb.2 _ sep.TIz).trans (hk _ _ sep.TIz sep.TITO sep.TIi1 sep.TIi2 hTI)
    · exact (sb.2 _ sep.TOz).trans TO'
    · exact ha1 _ _ (D1.over h1' sb sep.zf1)
    · exact ha2 _ _ (D2.over h2' sb sep.zf2)
    · have hlt : c < s.heap.objs.size := by
        have e' : c = N + 4 ∨ c = N + 2 ∨ c = N + 3 ∨ c = N ∨ c = N + 1 := by simpa using hcm
        rcases e' with q | q | q | q | q <;> (rw [q]; exact Nat.lt_of_le_of_lt (by simp) hzl)
      rw [upd_ne (Nat.ne_of_lt hlt)]
      exact (hf c hcm).1
  done := by
    intro X hP hw hK hc i pins s σ H E I hf st hg
    subst hP hw hK
    obtain ⟨hz, hTI, ⟨x0, y0, hTO⟩, h1, h2⟩ := st
    obtain ⟨xs, ys, hqx, hqy, l1, l2, hend⟩ := hg
    have sep := zip_sep2 hb hb'
    have nb : N ∉ S.base := fun z => Nat.lt_irrefl _ (hb _ z)
    have nb' : N + 1 ∉ S'.base := fun z => absurd (Nat.lt_of_succ_lt (hb' _ z)) (Nat.lt_irrefl _)
    obtain ⟨P1, St1, D1, st1, ha1, hP1⟩ := Src.now I hc hqx nb h1
    obtain ⟨P2, St2, D2, st2, ha2, hP2⟩ := Src.now I hc hqy nb' h2
    exact wpAny_pyNext_zipD2_end sep D1 D2 hz hTI hTO st1 st2 l1 l2 hend fun h' tk hk => ⟨rfl, I.turnedL (t' := tk) (ch := [N + 4, N + 2, N + 3, N, N + 1]) (fun c o hb q =>
      hk c o (fun q' => hb (by simp [q'])) (fun q' => hb (by simp [q'])) (fun q' => hb (by simp [q'])) (fun q' => hb (by simp [q'])) q) hf⟩
  self := fun A i s Q E st h => wpAny_pyIter_zip st.1 h
def iZipS (K : PySem.W.Frag) (ta : TA) : TI := fun σ H R => ta σ H fun vs H1 => ∃ (S S' : Src) (xs ys : List V), vs = [S.v, S'.v] ∧ S.has K H1 xs ∧ S'.has K H1 ys ∧ R (ItZ K S S') H1
theorem pi_zipS {X : Cx} {e e2 : PySem.Expr} {ta : TA} {p pos tpos : Pos} {elts : List PySem.Expr} {kk : Nat} (hg : Gl X "zip") (hm : X.mg "zip" = none) (ha : PA X [e, e2] ta)
    (hs : starEach [e, e2] X.env = (false, eval e X.env) :: starEach [e2] X.env) (hpl : (backTo pos (starEach [e2] X.env)).any (·.1) = false) :
    PI X (.Tuple elts kk tpos) (.Call (.Name "zip" p) [e, e2] [] pos) (iZipS X.K ta) := by
  refine ⟨fun pins s σ H R I h => ?_⟩
  refine Call_ (ld_blt I hg hm PyProof.Rows.boot_zip (PyProof.Rows.callWith_type1 (thn (ha.run pos pins s σ H _ I h) fun us s1 ⟨vs, H1, I1, r1, q1⟩ => ?_) hs hpl))
  obtain ⟨S, S', xs, ys, ex, hqx, hqy, q⟩ := q1
  subst ex
  cases r1 with
  | cons r rr =>
    cases rr with
    | cons r' rr =>
      cases rr
      obtain ⟨o, Hq, B, hB, hat, hlt⟩ := Src.begins I1 hqx r
      obtain ⟨o', Hq', B', hB', hat', hlt'⟩ := Src.begins I1 hqy r'
      refine zip_begins2 B B' hB hB' fun h' hz hTI hTO h1 h2 hsz hk => wpAny_pyIter_zip hz ?_
      have I2 : Inv X pins σ H1 { s1 with heap := h' } := I1.kept (t' := s1.toks) hk
      refine ⟨s1.heap.objs.size + 4, [s1.heap.objs.size + 4, s1.heap.objs.size + 2, s1.heap.objs.size + 3, s1.heap.objs.size, s1.heap.objs.size + 1], _, _, H1, rfl, I2, turn_zipS S S' s1.heap.objs.size hlt hlt', ⟨hz, hTI, ⟨_, _, hTO⟩, hat _ _ h1, hat' _ _ h2⟩, fun c hcm => ?_, q⟩
      have e' : c = s1.heap.objs.size + 4 ∨ c = s1.heap.objs.size + 2 ∨ c = s1.heap.objs.size + 3 ∨ c = s1.heap.objs.size ∨ c = s1.heap.objs.size + 1 := by simpa using hcm
      have hle : s1.heap.objs.size ≤ c := by
        rcases e' with z | z | z | z | z
        · rw [z]; exact Nat.le_add_right _ _
        · rw [z]; exact Nat.le_add_right _ _
        · rw [z]; exact Nat.le_add_right _ _
        · rw [z]; exact Nat.le_refl _
        · rw [z]; exact Nat.le_add_right _ _
      exact I1.fpOk hle (I1.hok.fresh hle)
/-- a value of a display, a name, .. walked -/
def iSeqS (K : PySem.W.Frag) (te : TE) : TI := fun σ H R => te σ H fun x H1 => (∃ a, x = .ref a ∧ (∃ xs, SqL K H1 a xs) ∧ R (Itl K a) H1) ∨ (∃ a, x = .ref a ∧ (∃ xs, SqT K H1 a xs) ∧ R (Itt K a) H1) ∨ ∃ z, x = .str z ∧ R (Its z) H1
theorem pi_seqS {X : Cx} {tg l : PySem.Expr} {tl : TE} (hl : PE X l tl) : PI X tg l (iSeqS X.K tl) := by
  refine ⟨fun pins s σ H R I h => ?_⟩
  refine thn (hl.run pins s σ H _ I h) fun v s1 ⟨x, H1, I1, r1, q1⟩ => ?_
  rcases q1 with ⟨a, e, ⟨xs, hq⟩, q⟩ | ⟨a, e, ⟨xs, hq⟩, q⟩ | ⟨z, e, q⟩
  · subst e
    cases r1
    obtain ⟨its, rv, p, hz⟩ := I1.list hq
    exact wpAny_pyIter_list p.isList (pi_one (tk := s1.toks) I1 _ (turn_list a _) ⟨_, Heap.get?_push_size _ rfl, rfl, rfl⟩ q)
  · subst e
    cases r1
    obtain ⟨its, rv, p, hz⟩ := I1.tuple hq
    exact wpAny_pyIter_tuple (show s1.heap.IsTuple a its.toArray from p) (pi_one (tk := s1.toks) I1 _ (turn_tuple a _) ⟨_, Heap.get?_push_size _ rfl, rfl, rfl⟩ q)
  · subst e
    obtain ⟨t, rfl⟩ := r1
    cases ha : z.cps.all (· < 128)
    · exact wpAny_pyIter_wide ha (pi_one (tk := s1.toks) I1 _ (turn_str _ z t "str_iterator" (.inr rfl)) ⟨_, Heap.get?_push_size _ rfl, rfl, rfl⟩ q)
    · exact wpAny_pyIter_ascii ha (pi_one (tk := s1.toks) I1 _ (turn_str _ z t "str_ascii_iterator" (.inl rfl)) ⟨_, Heap.get?_push_size _ rfl, rfl, rfl⟩ q)
end DI
set_option maxHeartbeats 2000000
/-! # DI: targets, what is walked, list comprehensions -/
namespace DI
open PySem PySem.Spec L2

theorem _root_.L2.PI.w {X : Cx} {tg e : PySem.Expr} {t t' : TI} (h : PI X tg e t) (hw : ∀ σ H R, t' σ H R → t σ H R) : PI X tg e t' := ⟨fun pins s σ H R I q => h.run pins s σ H R I (hw σ H R q)⟩
theorem _root_.L2.PG.w {X : Cx} {tg : PySem.Expr} {t t' : TG} (h : PG X tg t) (hw : ∀ v σ H Q, t' v σ H Q → t v σ H Q) : PG X tg t' := ⟨fun pins s σ H v u Q I r q => h.run pins s σ H v u Q I r (hw v σ H Q q)⟩
theorem _root_.L2.PGs.w {X : Cx} {tg : List PySem.Expr} {t t' : TGs} (h : PGs X tg t) (hw : ∀ v σ H Q, t' v σ H Q → t v σ H Q) : PGs X tg t' := ⟨fun pins s σ H v u Q I r q => h.run pins s σ H v u Q I r (hw v σ H Q q)⟩

/-! ### targets -/
theorem wipe_get {σ : St} {i : Nat} : ∀ {vs : List Nat}, (wipe σ vs)[i]? = if i ∈ vs ∧ i < σ.length then some none else σ[i]?
  | [] => by simp [wipe]
  | v :: vs => by
    unfold wipe
    rw [List.getElem?_set]
    rw [wipe_length]
    by_cases hv : v = i
    · subst hv
      by_cases hl : v < σ.length
      · simp [hl]
      · rw [if_pos rfl, if_neg hl, if_neg (by simp [hl]), List.getElem?_eq_none (by omega)]
    · rw [if_neg hv, wipe_get (vs := vs)]
      have : (i ∈ v :: vs ∧ i < σ.length) ↔ (i ∈ vs ∧ i < σ.length) := by
        simp only [List.mem_cons]
        constructor
        · rintro ⟨h | h, hl⟩
          · exact absurd h.symm hv
          · exact ⟨h, hl⟩
        · rintro ⟨h, hl⟩; exact ⟨.inr h, hl⟩
      simp only [this]
theorem wipe_set {σ : St} {i : Nat} {x : Option V} {vs : List Nat} (h : i ∈ vs) : wipe (σ.set i x) vs = wipe σ vs := by
  apply List.ext_getElem?
  intro j
  rw [wipe_get, wipe_get, List.length_set, List.getElem?_set]
  by_cases hj : i = j
  · subst hj
    by_cases hl : i < σ.length
    · rw [if_pos ⟨h, hl⟩, if_pos ⟨h, hl⟩]
    · have h0 : ¬ (i ∈ vs ∧ i < σ.length) := fun z => hl z.2
      rw [if_neg h0, if_neg h0, if_pos rfl, if_neg hl, List.getElem?_eq_none (by omega)]
  · rw [if_neg hj]
theorem wipe_wipe {σ : St} {vs : List Nat} : wipe (wipe σ vs) vs = wipe σ vs := by
  apply List.ext_getElem?
  intro j
  rw [wipe_get, wipe_length]
  split
  · rename_i h
    rw [wipe_get, if_pos h]
  · rfl
theorem wipeP_get {σ : Sl} {i : Nat} {p : PV} : ∀ {vs : List Nat}, (wipeP σ vs)[i]? = some (some p) → σ[i]? = some (some p) ∧ i ∉ vs
  | [], h => ⟨h, by simp⟩
  | v :: vs, h => by
    unfold wipeP at h
    by_cases hi : v = i
    · subst hi
      by_cases hv : v < (wipeP σ vs).length
      · rw [List.getElem?_set_self hv] at h; cases h
      · rw [List.getElem?_eq_none (by simpa using hv)] at h; cases h
    · rw [List.getElem?_set_ne hi] at h
      obtain ⟨h1, h2⟩ := wipeP_get h
      exact ⟨h1, by simp only [List.mem_cons, not_or]; exact ⟨fun e => hi e.symm, h2⟩⟩
theorem wipeP_length (σ : Sl) : ∀ vs : List Nat, (wipeP σ vs).length = σ.length
  | [] => rfl
  | v :: vs => by unfold wipeP; rw [List.length_set, wipeP_length σ vs]
theorem SRep.wipe {G : Gd} {M : Store} {ι : List Addr} {H : Hp} {sp : Sl} {σ : St} (s : SRep G M ι H sp σ) (vs : List Nat) : SRep G M ι H (wipeP sp vs) (wipe σ vs) :=
  ⟨by rw [wipeP_length, wipe_length]; exact s.len, fun i p h => by
    obtain ⟨h1, h2⟩ := wipeP_get h
    obtain ⟨v, h3, h4⟩ := s.at_ i p h1
    exact ⟨v, by rw [wipe_get, if_neg (fun z => h2 z.1)]; exact h3, h4⟩⟩
def Sub (Hd H' : Hp) : Prop := ∀ a o, Hd a = some o → H' a = some o
theorem Sub.rfl' {H : Hp} : Sub H H := fun _ _ h => h
theorem Sub.rd {Hd H' : Hp} (s : Sub Hd H') {a : Addr} {u : HO} (h : Rd Hd a u) : Rd H' a u := h.elim (fun z => .inl (s a _ z)) fun ⟨o, z⟩ => .inr ⟨o, s a _ z⟩
theorem Sub.sqT {Hd H' : Hp} (s : Sub Hd H') {K : PySem.W.Frag} {a : Addr} {xs : List V} (h : SqT K Hd a xs) : SqT K H' a xs := h.elim (fun z => .inl (s.rd z)) .inr
def LG (G : Gd) (t : CT) : TG := fun v σ H Q => ∃ M ι Hd sp p, Sub Hd H ∧ SRep G M ι Hd sp σ ∧ Rp G ι Hd (Own M ι) p v ∧ ∃ sp', asg t p sp = some sp' ∧
  ∀ σ', SRep G M ι Hd sp' σ' → (∀ vs, (∀ i ∈ t.slots, i ∈ vs) → wipe σ' vs = wipe σ vs) → Q σ' H
def LGs (G : Gd) (ts : List CT) : TGs := fun vs σ H Q => ∃ M ι Hd sp ps, Sub Hd H ∧ SRep G M ι Hd sp σ ∧ Rps G ι Hd (Own M ι) ps vs ∧ ∃ sp', asgs ts ps sp = some sp' ∧
  ∀ σ', SRep G M ι Hd sp' σ' → (∀ ws, (∀ i ∈ CT.slotss ts, i ∈ ws) → wipe σ' ws = wipe σ ws) → Q σ' H
section
variable {G : Gd} {X : Cx} {pos : Pos}
theorem sg_name {i : Nat} {x : Str} (hN : X.N.Nodup) (hi : X.N[i]? = some x) (hx : Loc X.env.scope x) (hf : X.fn x = true ∨ X.env.scope.names.lookup x = some .local) : PG X (.Name x pos) (LG G (.name i)) :=
  (pg_name hN hi hx hf).w fun v σ H Q h => by
    obtain ⟨M, ι, Hd, sp, p, sb, s, r, sp', e, q⟩ := h
    simp only [asg] at e
    split at e
    · cases e
      exact q _ (s.set r i) fun vs hv => wipe_set (hv i (by simp [CT.slots]))
    · cases e
theorem sg_nil : PGs X [] (LGs G []) := pgs_nil.w fun v σ H Q h => by
  obtain ⟨M, ι, Hd, sp, ps, sb, s, r, sp', e, q⟩ := h
  cases ps with
  | nil =>
    cases r
    simp only [asgs] at e
    cases e
    exact ⟨rfl, q σ s fun ws _ => rfl⟩
  | cons p ps => simp [asgs] at e
theorem each_cons {e : PySem.Expr} {es : List PySem.Expr} {env : Env} (h : notStar e = true) : assignEach (e :: es) env = (false, assign e env) :: assignEach es env := by
  cases e <;> first | rfl | cases h
theorem each_len {env : Env} : ∀ {es : List PySem.Expr}, (assignEach es env).length = es.length
  | [] => rfl
  | e :: es => by
    have ih := @each_len env es
    cases e <;> (show (_ :: assignEach es env).length = _; simp [ih])
theorem each_none {env : Env} : ∀ {es : List PySem.Expr}, es.all notStar = true → (assignEach es env).findIdx? (·.1) = none
  | [], _ => rfl
  | e :: es, h => by
    rw [List.all_cons, Bool.and_eq_true] at h
    rw [each_cons h.1, List.findIdx?_cons, if_neg (by exact Bool.false_ne_true), each_none h.2]
    rfl
theorem sg_cons {e : PySem.Expr} {es : List PySem.Expr} {t : CT} {ts : List CT} (hn : notStar e = true) (h1 : PG X e (LG G t)) (h2 : PGs X es (LGs G ts)) : PGs X (e :: es) (LGs G (t :: ts)) :=
  (pgs_cons h1 h2 (by rw [each_cons hn]; rfl)).w fun v σ H Q h => by
    obtain ⟨M, ι, Hd, sp, ps, sb, s, r, sp', e, q⟩ := h
    cases r with
    | nil => simp [asgs] at e
    | cons r rr =>
      rename_i p v ps vs
      simp only [asgs] at e
      split at e
      · rename_i sp1 e1
        refine ⟨v, vs, rfl, M, ι, Hd, sp, p, sb, s, r, sp1, e1, fun σ1 s1 w1 => ⟨M, ι, Hd, sp1, ps, sb, s1, rr, sp', e, fun σ2 s2 w2 => q σ2 s2 fun ws hw => ?_⟩⟩
        rw [w2 ws fun i hi => hw i (by simp [CT.slotss, hi]), w1 ws fun i hi => hw i (by simp [CT.slotss, hi])]
      · cases e
theorem asgs_len : ∀ {ts : List CT} {ps : List PV} {sp sp' : Sl}, asgs ts ps sp = some sp' → ps.length = ts.length
  | [], [], _, _, _ => rfl
  | [], _ :: _, _, _, e => by simp [asgs] at e
  | _ :: _, [], _, _, e => by simp [asgs] at e
  | t :: ts, p :: ps, sp, sp', e => by
    simp only [asgs] at e
    split at e
    · simp [asgs_len e]
    · cases e
theorem sg_tup (hK : X.K = G.K) (hc : X.calm = true) {es : List PySem.Expr} {k : Nat} {ts : List CT} (hl : es.length = ts.length) (hns : es.all notStar = true) (h : PGs X es (LGs G ts)) : PG X (.Tuple es k pos) (LG G (.tup ts)) :=
  (pg_tup hc h each_len (each_none hns)).w fun v σ H Q h => by
    obtain ⟨M, ι, Hd, sp, p, sb, s, r, sp', e, q⟩ := h
    simp only [asg] at e
    split at e
    · cases r with
      | tup h1 h2 h3 =>
        have l1 := asgs_len e
        have l2 := h3.length
        exact ⟨_, _, rfl, sb.sqT (hK ▸ h1.sq), by omega, M, ι, Hd, sp, _, sb, s, h3, sp', e, fun σ' s' w' => q σ' s' w'⟩
    · cases e
end

/-! ### one address aside -/
def del (H : Hp) (D : Addr) : Hp := fun a => if a = D then none else H a
section
variable {H : Hp} {D : Addr} {o : HO}
theorem del_self : del H D D = none := if_pos rfl
theorem del_ne {a : Addr} (h : a ≠ D) : del H D a = H a := if_neg h
theorem upd_del : upd (del H D) D o = upd H D o := funext fun a => by
  by_cases h : a = D
  · subst h; rw [upd_same, upd_same]
  · rw [upd_ne h, upd_ne h, del_ne h]
theorem del_upd : del (upd H D o) D = del H D := funext fun a => by
  by_cases h : a = D
  · subst h; rw [del_self, del_self]
  · rw [del_ne h, del_ne h, upd_ne h]
theorem upd_id (h : H D = some o) : upd H D o = H := funext fun a => by
  by_cases e : a = D
  · subst e; rw [upd_same, h]
  · rw [upd_ne e]
theorem del_id (h : H D = none) : del H D = H := funext fun a => by
  by_cases e : a = D
  · subst e; rw [del_self, h]
  · rw [del_ne e]
theorem del_some {a : Addr} {u : HO} (h : del H D a = some u) : a ≠ D ∧ H a = some u := by
  by_cases e : a = D
  · subst e; rw [del_self] at h; cases h
  · rw [del_ne e] at h; exact ⟨e, h⟩
variable {G : Gd} {M : Store} {ι : List Addr} {od : Obj} {ws : List V}
theorem rd_undel {a : Addr} {u : HO} (h : Rd H a u) (hD : a ≠ D) : Rd (del H D) a u := h.elim (fun z => .inl (by rw [del_ne hD]; exact z)) fun ⟨o, z⟩ => .inr ⟨o, by rw [del_ne hD]; exact z⟩
mutual
theorem Rp.undel {O : Addr → Prop} (hz : H D = some (.frz od (.lst ws))) (hs : G.sw = false → D ≠ G.sa) : ∀ (p : PV) (v : V), Rp G ι H O p v → Rp G ι (del H D) O p v
  | .non, _, h => by cases h; exact .non
  | .bl b, _, h => by cases h; exact .bl b
  | .int i, _, h => by cases h; exact .int i
  | .str s, _, h => by cases h; exact .str s
  | .tup ps, _, h => by
    cases h with
    | tup h1 h2 h3 =>
      refine .tup (h1.elim (fun ⟨z, n⟩ => .inl ⟨rd_undel z fun e => ?_, n⟩) .inr) h2 (Rps.undel hz hs ps _ h3)
      subst e
      rcases z with z | ⟨o, z⟩ <;> (rw [hz] at z; cases z)
  | .lst ps, _, h => by
    cases h with
    | lst h1 h2 h3 =>
      refine .lst ⟨?_, h1.2⟩ h2 (Rps.undel hz hs ps _ h3)
      rw [del_ne fun e => by subst e; have z := h1.1; rw [hz] at z; cases z]
      exact h1.1
  | .ref n, _, h => by
    cases h with
    | ref h1 => exact .ref h1
  | .fn f, _, h => by
    cases h with
    | fn h1 h2 => exact .fn h1 h2
  | .ty n, _, h => by cases h; exact .ty n
  | .scr ns, _, h => by
    cases h with
    | scr h0 h1 => exact .scr h0 (h1.elim .inl fun z => .inr ⟨z.1, rd_undel z.2.1 fun e => hs z.1 (e.symm.trans h0), z.2.2⟩)
theorem Rps.undel {O : Addr → Prop} (hz : H D = some (.frz od (.lst ws))) (hs : G.sw = false → D ≠ G.sa) : ∀ (ps : List PV) (vs : List V), Rps G ι H O ps vs → Rps G ι (del H D) O ps vs
  | [], _, h => by cases h; exact .nil
  | p :: ps, _, h => by
    cases h with
    | cons h1 h2 => exact .cons (Rp.undel hz hs p _ h1) (Rps.undel hz hs ps _ h2)
end
theorem MRel.undel (m : MRel G M ι H) (hz : H D = some (.frz od (.lst ws))) (hs : G.sw = false → D ≠ G.sa) : MRel G M ι (del H D) := by
  refine ⟨fun z => by rw [del_ne (Ne.symm (hs z))]; exact m.sa z, m.len, m.inj, fun n o h => ?_⟩
  obtain ⟨a, h1, h2⟩ := m.obj n o h
  refine ⟨a, h1, ?_⟩
  cases o with
  | lst ps =>
    obtain ⟨vs, k1, k2, k3⟩ := h2
    exact ⟨vs, by rw [del_ne fun e => by subst e; rw [hz] at k1; cases k1]; exact k1, k2, Rps.undel hz hs _ _ k3⟩
  | ins c fs =>
    obtain ⟨nm, fn, C, dx, fvs, k1, k2, k3, k4, k5, k6, k7⟩ := h2
    exact ⟨nm, fn, C, dx, fvs, k1, k2, by rw [del_ne fun e => by subst e; rw [hz] at k3; cases k3]; exact k3, k4, k5, k6, fun i f p q1 q2 => let ⟨v, q3, q4⟩ := k7 i f p q1 q2; ⟨v, q3, Rp.undel hz hs _ _ q4⟩⟩
theorem Ext.undel {M' : Store} {ι' : List Addr} {H' : Hp} {u : HO} (hD : H D = none) (e : Ext M ι (upd H D u) M' ι' H') : Ext M ι H M' ι' (del H' D) :=
  ⟨e.pre, fun a o h n => by
    have hne : a ≠ D := fun z => by rw [z, hD] at h; cases h
    rw [del_ne hne]
    exact e.keep a o (by rw [upd_ne hne]; exact h) n⟩
end

/-! ### what is walked -/
inductive Grow (Hd H' : Hp) : Hp → Hp → Prop
  | same : Grow Hd H' Hd H'
  | one {T : Addr} {u : HO} : H' T = none → Grow Hd H' (upd Hd T u) (upd H' T u)
structure SrcRep (G : Gd) (V : ItV) (M : Store) (ι : List Addr) (H : Hp) (S : Src) : Prop where
  len : V.items.length ≤ sizeLine
  has : ∀ M' ι' Hd, MRel G M' ι' Hd → Ext M ι H M' ι' Hd → gdOk M' V.gd → ∃ vs, (∀ H', Sub Hd H' → S.has G.K H' vs) ∧ Rps G ι' Hd (Own M' ι') V.items vs
structure ItRep (G : Gd) (V : ItV) (M : Store) (ι : List Addr) (H : Hp) (J : It) : Prop where
  len : V.items.length ≤ sizeLine
  go : ∀ M' ι' Hd H' (i : Nat) (x : PV), MRel G M' ι' Hd → Ext M ι H M' ι' Hd → gdOk M' V.gd → Sub Hd H' → V.items[i]? = some x → J.go i H' ∧ ∀ v H'', J.yld i H' v H'' → ∃ Hd', Grow Hd H' Hd' H'' ∧ MRel G M' ι' Hd' ∧ Ext M' ι' Hd M' ι' Hd' ∧ Rp G ι' Hd' (Own M' ι') x v
  stop : ∀ M' ι' Hd H', MRel G M' ι' Hd → Ext M ι H M' ι' Hd → gdOk M' V.gd → Sub Hd H' → J.stop V.items.length H'
section
variable {G : Gd} {M : Store} {ι : List Addr} {H : Hp} {V : ItV}
theorem srcRep (m : MRel G M ι H) {p : PV} {v : L2.V} (r : Rp G ι H (Own M ι) p v) (e : seqIt M p = some V) : ∃ S : Src, S.v = v ∧ SrcRep G V M ι H S := by
  cases r with
  | tup h1 h2 h3 =>
    rename_i a vs ps
    simp only [seqIt] at e
    cases e
    refine ⟨.t a, rfl, h2, fun M' ι' Hd m' e' _ => ⟨vs, fun H' sb => ?_, h3.ext e'⟩⟩
    rcases e'.fxT h1 with z | z
    · exact .inl (sb.rd z.1)
    · exact .inr z
  | lst h1 h2 h3 =>
    rename_i a vs ps
    simp only [seqIt] at e
    cases e
    exact ⟨.l a, rfl, h2, fun M' ι' Hd m' e' _ => ⟨vs, fun H' sb => .inl (.inl (sb _ _ (e'.fxL h1).1)), h3.ext e'⟩⟩
  | ref h1 =>
    rename_i n a
    simp only [seqIt] at e
    split at e
    · rename_i xs hx
      cases e
      obtain ⟨b, vs, e1, k1, k2, k3, k4, k5⟩ := m.lstAt hx (.ref h1)
      cases e1
      refine ⟨.l a, rfl, k4, fun M' ι' Hd m' e' g => ?_⟩
      have hx' : lstAt M' n = some xs := g (n, xs) (by simp)
      obtain ⟨b, vs', e1, q1, q2, q3, q4, q5⟩ := m'.lstAt hx' (.ref (e'.pre _ _ h1))
      cases e1
      exact ⟨vs', fun H' sb => .inl (.inl (sb _ _ q3)), q5⟩
    · cases e
  | str s =>
    simp only [seqIt] at e
    split at e
    · rename_i hz
      cases e
      refine ⟨.s s, rfl, by simpa [Str.length] using hz, fun M' ι' Hd m' e' _ => ⟨s.cps.toList.map fun c => .str ⟨#[c]⟩, fun H' sb => rfl, ?_⟩⟩
      generalize s.cps.toList = l
      induction l with
      | nil => exact .nil
      | cons c l ih => exact .cons (.str _) ih
    · cases e
  | _ => simp [seqIt] at e
/-- one after another -/
def Src.J (K : PySem.W.Frag) : Src → It
  | .l a => Itl K a
  | .t a => Itt K a
  | .s x => Its x
theorem SrcRep.seq {S : Src} (r : SrcRep G V M ι H S) : ItRep G V M ι H (S.J G.K) := by
  refine ⟨r.len, fun M' ι' Hd H' i x m' e' g sb hx => ?_, fun M' ι' Hd H' m' e' g sb => ?_⟩
  · obtain ⟨vs, h, rs⟩ := r.has M' ι' Hd m' e' g
    obtain ⟨v, hv, rv⟩ := rs.get hx
    have h := h H' sb
    cases S with
    | l a =>
      refine ⟨⟨vs, v, h, hv⟩, fun w H'' y => ?_⟩
      obtain ⟨e1, y⟩ := y
      subst e1
      have e2 := y vs h
      rw [hv] at e2
      cases e2
      exact ⟨Hd, .same, m', .refl, rv⟩
    | t a =>
      refine ⟨⟨vs, v, h, hv⟩, fun w H'' y => ?_⟩
      obtain ⟨e1, y⟩ := y
      subst e1
      have e2 := y vs h
      rw [hv] at e2
      cases e2
      exact ⟨Hd, .same, m', .refl, rv⟩
    | s z =>
      have h : vs = _ := h
      subst h
      rw [List.getElem?_map] at hv
      cases hc : z.cps.toList[i]? with
      | none => rw [hc] at hv; cases hv
      | some c =>
        rw [hc] at hv
        have hv : L2.V.str ⟨#[c]⟩ = v := by simpa using hv
        refine ⟨by have := (List.getElem?_eq_some_iff.mp hc).1; show i < z.cps.size; simpa using this, fun w H'' y => ?_⟩
        obtain ⟨e1, c', hc', e2⟩ := y
        subst e1 e2
        have hc2 : z.cps[i]? = some c := by simpa using hc
        rw [hc2] at hc'
        cases hc'
        rw [← hv] at rv
        exact ⟨Hd, .same, m', .refl, rv⟩
  · obtain ⟨vs, h, rs⟩ := r.has M' ι' Hd m' e' g
    have h := h H' sb
    have hl := rs.length
    cases S with
    | l a => exact ⟨vs, h, by omega⟩
    | t a => exact ⟨vs, h, by omega⟩
    | s z =>
      have h : vs = _ := h
      subst h
      show z.cps.size ≤ _
      simp at hl
      omega
theorem sz2 : 2 ≤ sizeLine := by decide
theorem enumL_get {xs : List PV} {i : Nat} : (enumL xs)[i]? = (xs[i]?).map fun p => .tup [.int (i : Nat), p] := by
  unfold enumL
  rw [List.getElem?_map, List.getElem?_zipIdx]
  cases xs[i]? <;> simp
theorem enumL_len {xs : List PV} : (enumL xs).length = xs.length := by simp [enumL]
theorem SrcRep.enum {S : Src} (r : SrcRep G V M ι H S) : ItRep G ⟨enumL V.items, V.gd⟩ M ι H (ItE G.K S) := by
  refine ⟨by rw [enumL_len]; exact r.len, fun M' ι' Hd H' i x m' e' g sb hx => ?_, fun M' ι' Hd H' m' e' g sb => ?_⟩
  · obtain ⟨vs, h, rs⟩ := r.has M' ι' Hd m' e' g
    rw [enumL_get] at hx
    cases hp : V.items[i]? with
    | none => rw [hp] at hx; cases hx
    | some p =>
      rw [hp] at hx
      have hx : PV.tup [.int (i : Nat), p] = x := by simpa using hx
      subst hx
      obtain ⟨v, hv, rv⟩ := rs.get hp
      have h := h H' sb
      refine ⟨⟨vs, v, h, hv⟩, fun w H'' y => ?_⟩
      obtain ⟨T, v', e1, hT, e2, y⟩ := y
      subst e1 e2
      have e3 := y vs h
      rw [hv] at e3
      cases e3
      have hTd : Hd T = none := Option.eq_none_iff_forall_not_mem.mpr fun o z => by have := sb T o z; rw [hT] at this; cases this
      exact ⟨_, .one hT, m'.new hTd, Ext.new hTd, m'.newRp hTd sz2 (.cons (.int _) (.cons rv .nil))⟩
  · obtain ⟨vs, h, rs⟩ := r.has M' ι' Hd m' e' g
    exact ⟨vs, h H' sb, by rw [enumL_len]; exact rs.length.symm⟩
theorem zipL_get {xs ys : List PV} {i : Nat} {z : PV} (h : (zipL xs ys)[i]? = some z) : ∃ p q, xs[i]? = some p ∧ ys[i]? = some q ∧ z = .tup [p, q] := by
  unfold zipL at h
  rw [List.getElem?_map] at h
  cases e : (xs.zip ys)[i]? with
  | none => rw [e] at h; cases h
  | some pq =>
    rw [e] at h
    obtain ⟨h1, h2⟩ := List.getElem?_zip_eq_some.mp e
    exact ⟨pq.1, pq.2, h1, h2, by simpa using h.symm⟩
theorem zipL_len {xs ys : List PV} : (zipL xs ys).length = min xs.length ys.length := by simp [zipL]
theorem SrcRep.zip {S S' : Src} {V' : ItV} (r : SrcRep G V M ι H S) (r' : SrcRep G V' M ι H S') : ItRep G ⟨zipL V.items V'.items, V.gd ++ V'.gd⟩ M ι H (ItZ G.K S S') := by
  have g1 : ∀ {M' : Store}, gdOk M' (V.gd ++ V'.gd) → gdOk M' V.gd := fun g p hp => g p (List.mem_append_left _ hp)
  have g2 : ∀ {M' : Store}, gdOk M' (V.gd ++ V'.gd) → gdOk M' V'.gd := fun g p hp => g p (List.mem_append_right _ hp)
  refine ⟨?_, fun M' ι' Hd H' i x m' e' g sb hx => ?_, fun M' ι' Hd H' m' e' g sb => ?_⟩
  · show (zipL V.items V'.items).length ≤ sizeLine
    rw [zipL_len]
    exact Nat.le_trans (Nat.min_le_left _ _) r.len
  · obtain ⟨vs, h, rs⟩ := r.has M' ι' Hd m' e' (g1 g)
    obtain ⟨us, k, ru⟩ := r'.has M' ι' Hd m' e' (g2 g)
    obtain ⟨p, q, hp, hq, rfl⟩ := zipL_get hx
    obtain ⟨v, hv, rv⟩ := rs.get hp
    obtain ⟨u, hu, ru⟩ := ru.get hq
    have h := h H' sb
    have k := k H' sb
    refine ⟨⟨vs, us, v, u, h, k, hv, hu⟩, fun w H'' y => ?_⟩
    obtain ⟨T, v', u', e1, hT, e2, y1, y2⟩ := y
    subst e1 e2
    have e3 := y1 vs h
    rw [hv] at e3
    cases e3
    have e4 := y2 us k
    rw [hu] at e4
    cases e4
    have hTd : Hd T = none := Option.eq_none_iff_forall_not_mem.mpr fun o z => by have := sb T o z; rw [hT] at this; cases this
    exact ⟨_, .one hT, m'.new hTd, Ext.new hTd, m'.newRp hTd sz2 (.cons rv (.cons ru .nil))⟩
  · obtain ⟨vs, h, rs⟩ := r.has M' ι' Hd m' e' (g1 g)
    obtain ⟨us, k, ru⟩ := r'.has M' ι' Hd m' e' (g2 g)
    have l1 := rs.length
    have l2 := ru.length
    refine ⟨vs, us, h H' sb, k H' sb, ?_⟩
    show (zipL V.items V'.items).length ≤ _ ∧ _
    rw [zipL_len]
    omega
end
end DI
set_option maxHeartbeats 2000000
/-! # DI: iterables, list comprehensions: the rules -/
namespace DI
open PySem PySem.Spec L2

def PostI (G : Gd) (W : WX) (σ : St) (M : Store) (ι : List Addr) (H : Hp) (R : It → Hp → Prop) : Res ItV → Prop
  | .ok V M' => ∀ ι' H' J, MRel G M' ι' H' → Ext M ι H M' ι' H' → ItRep G V M' ι' H' J → R J H'
  | .exc x M' => ∀ ι' H' cv d, MRel G M' ι' H' → Ext M ι H M' ι' H' → XRep G ι' H' (Own M' ι') x cv d → W cv d σ H'
  | .bad => False
def LI (G : Gd) (W : WX) (c : Ev ItV) : TI := fun σ H R => ∃ M ι sp, MRel G M ι H ∧ SRep G M ι H sp σ ∧ PostI G W σ M ι H R (c sp M)
theorem SrcRep.ext {G : Gd} {V : ItV} {M M1 : Store} {ι ι1 : List Addr} {H H1 : Hp} {S : Src} (r : SrcRep G V M ι H S) (e : Ext M ι H M1 ι1 H1) : SrcRep G V M1 ι1 H1 S :=
  ⟨r.len, fun M' ι' Hd m' e' g => r.has M' ι' Hd m' (e.trans e') g⟩
theorem ItRep.ext {G : Gd} {V : ItV} {M M1 : Store} {ι ι1 : List Addr} {H H1 : Hp} {J : It} (r : ItRep G V M ι H J) (e : Ext M ι H M1 ι1 H1) : ItRep G V M1 ι1 H1 J :=
  ⟨r.len, fun M' ι' Hd H' i x m' e' => r.go M' ι' Hd H' i x m' (e.trans e'), fun M' ι' Hd H' m' e' => r.stop M' ι' Hd H' m' (e.trans e')⟩
theorem seqIt_gd {M : Store} {p : PV} {V : ItV} (e : seqIt M p = some V) : gdOk M V.gd := by
  unfold seqIt at e
  split at e
  · cases e; exact fun _ h => nomatch h
  · cases e; exact fun _ h => nomatch h
  · split at e
    · rename_i h
      cases e
      intro p hp
      have e2 := List.mem_singleton.mp hp
      subst e2
      exact h
    · cases e
  · split at e
    · cases e; exact fun _ h => nomatch h
    · cases e
  · cases e
section
variable {G : Gd} {W : WX} {σ : St} {M M1 : Store} {ι ι1 : List Addr} {H H1 : Hp} {R : It → Hp → Prop}
theorem PostI.from {r : Res ItV} (h : PostI G W σ M ι H R r) (e : Ext M ι H M1 ι1 H1) : PostI G W σ M1 ι1 H1 R r := by
  cases r with
  | ok V M' => exact fun ι' H' J a b c => h ι' H' J a (e.trans b) c
  | exc x M' => exact fun ι' H' cv d a b c => h ι' H' cv d a (e.trans b) c
  | bad => exact h
theorem PostE.bindI {Q1 : VK} {r : Res PV} {k : PV → Store → Res ItV} (h : PostI G W σ M ι H R (r.bind k))
    (hq : ∀ p M1 ι1 H1 v, MRel G M1 ι1 H1 → Ext M ι H M1 ι1 H1 → Rp G ι1 H1 (Own M1 ι1) p v → PostI G W σ M1 ι1 H1 R (k p M1) → Q1 v H1) : PostE G W σ M ι H Q1 r := by
  cases r with
  | ok p M1 => exact fun ι1 H1 v a b c => hq p M1 ι1 H1 v a b c (PostI.from (r := k p M1) h b)
  | exc x M1 => exact h
  | bad => exact h
theorem PostA.bindI {Q1 : List V → Hp → Prop} {r : Res (List PV)} {k : List PV → Store → Res ItV} (h : PostI G W σ M ι H R (r.bind k))
    (hq : ∀ ps M1 ι1 H1 vs, MRel G M1 ι1 H1 → Ext M ι H M1 ι1 H1 → Rps G ι1 H1 (Own M1 ι1) ps vs → PostI G W σ M1 ι1 H1 R (k ps M1) → Q1 vs H1) : PostA G W σ M ι H Q1 r := by
  cases r with
  | ok p M1 => exact fun ι1 H1 v a b c => hq p M1 ι1 H1 v a b c (PostI.from (r := k p M1) h b)
  | exc x M1 => exact h
  | bad => exact h
theorem bind_assoc {α β γ : Type} (r : Res α) (k : α → Store → Res β) (l : β → Store → Res γ) : (r.bind k).bind l = r.bind fun a M => (k a M).bind l := by
  cases r <;> rfl
end
def enumK : List PV → Store → Res ItV
  | [p], M => match seqIt M p with
    | some J => .ok ⟨enumL J.items, J.gd⟩ M
    | none => .bad
  | _, _ => .bad
def zipK : List PV → Store → Res ItV
  | [p, q], M => match seqIt M p, seqIt M q with
    | some J, some J' => .ok ⟨zipL J.items J'.items, J.gd ++ J'.gd⟩ M
    | _, _ => .bad
  | _, _ => .bad
section
variable {G : Gd} {W : WX} {X : Cx} {pos p : Pos} {tg a b c : PySem.Expr} {ca cb cc : Ev PV}
/-- arguments, plain -/
theorem sa1 (hn : notStar a = true) (ha : PE X a (LE G W ca)) : PA X [a] (LA G W fun sp M => (ca sp M).bind fun p M1 => .ok [p] M1) :=
  (sa_cons hn ha sa_nil).w fun σ H Q h => h
theorem sa2 (hn : notStar a = true) (hn2 : notStar b = true) (ha : PE X a (LE G W ca)) (hb : PE X b (LE G W cb)) : PA X [a, b] (LA G W fun sp M => (ca sp M).bind fun p M1 => (cb sp M1).bind fun q M2 => .ok [p, q] M2) :=
  (sa_cons hn ha (sa1 hn2 hb)).w fun σ H Q h => by
    obtain ⟨M, ι, sp, m, s, post⟩ := h
    refine ⟨M, ι, sp, m, s, ?_⟩
    simp only [bind_assoc]
    exact post
theorem sa3 (hn : notStar a = true) (hn2 : notStar b = true) (hn3 : notStar c = true) (ha : PE X a (LE G W ca)) (hb : PE X b (LE G W cb)) (hc : PE X c (LE G W cc)) :
    PA X [a, b, c] (LA G W fun sp M => (ca sp M).bind fun p M1 => (cb sp M1).bind fun q M2 => (cc sp M2).bind fun r M3 => .ok [p, q, r] M3) :=
  (sa_cons hn ha (sa2 hn2 hn3 hb hc)).w fun σ H Q h => by
    obtain ⟨M, ι, sp, m, s, post⟩ := h
    refine ⟨M, ι, sp, m, s, ?_⟩
    simp only [bind_assoc]
    exact post
theorem si_seq (hK : X.K = G.K) (ha : PE X a (LE G W ca)) : PI X tg a (LI G W fun sp M => (ca sp M).bind fun p M1 => .ofO (seqIt M1 p) M1) :=
  (pi_seqS ha).w fun σ H R h => by
    obtain ⟨M, ι, sp, m, s, post⟩ := h
    refine ⟨M, ι, sp, m, s, PostE.bindI post fun p M1 ι1 H1 v m1 e1 r1 post1 => ?_⟩
    cases e : seqIt M1 p with
    | none => rw [e] at post1; exact post1.elim
    | some V =>
      rw [e] at post1
      obtain ⟨S, hv, sr⟩ := srcRep m1 r1 e
      have q := post1 ι1 H1 _ m1 .refl sr.seq
      obtain ⟨vs, h, _⟩ := sr.has M1 ι1 H1 m1 .refl (seqIt_gd e)
      have h := h H1 Sub.rfl'
      rw [hK]
      cases S with
      | l a => exact .inl ⟨a, hv.symm, ⟨vs, h⟩, q⟩
      | t a => exact .inr (.inl ⟨a, hv.symm, ⟨vs, h⟩, q⟩)
      | s z => exact .inr (.inr ⟨z, hv.symm, q⟩)
theorem si_enum (hK : X.K = G.K) {elts : List PySem.Expr} {kk : Nat} {tpos : Pos} (hg : Gl X "enumerate") (hm : X.mg "enumerate" = none) (hn : notStar a = true) (ha : PE X a (LE G W ca)) :
    PI X (.Tuple elts kk tpos) (.Call (.Name "enumerate" p) [a] [] pos) (LI G W fun sp M => (ca sp M).bind fun p M1 => match seqIt M1 p with
    | some J => .ok ⟨enumL J.items, J.gd⟩ M1
    | none => .bad) :=
  (pi_enumS hg hm (sa1 hn ha) (by rw [star_cons hn]; rfl)).w fun σ H R h => by
    obtain ⟨M, ι, sp, m, s, post⟩ := h
    refine ⟨M, ι, sp, m, s, ?_⟩
    have post : PostI G W σ M ι H R (((ca sp M).bind fun p M1 => .ok [p] M1).bind fun ps M1 => enumK ps M1) := by rw [bind_assoc]; exact post
    refine PostA.bindI post fun ps M1 ι1 H1 vs m1 e1 r1 post1 => ?_
    unfold enumK at post1
    split at post1
    · obtain ⟨v, rfl, rp⟩ := r1.one
      split at post1
      · rename_i J e
        obtain ⟨S, hv, sr⟩ := srcRep m1 rp e
        have q := post1 ι1 H1 _ m1 .refl sr.enum
        obtain ⟨vs, h, _⟩ := sr.has M1 ι1 H1 m1 .refl (seqIt_gd e)
        rw [hK]
        exact ⟨S, vs, by rw [hv], h H1 Sub.rfl', q⟩
      · exact post1.elim
    · exact post1.elim
theorem si_zip (hK : X.K = G.K) {elts : List PySem.Expr} {kk : Nat} {tpos : Pos} (hg : Gl X "zip") (hm : X.mg "zip" = none) (hn : notStar a = true) (hn2 : notStar b = true) (ha : PE X a (LE G W ca)) (hb : PE X b (LE G W cb)) :
    PI X (.Tuple elts kk tpos) (.Call (.Name "zip" p) [a, b] [] pos) (LI G W fun sp M => (ca sp M).bind fun p M1 => (cb sp M1).bind fun q M2 => match seqIt M2 p, seqIt M2 q with
    | some J, some J' => .ok ⟨zipL J.items J'.items, J.gd ++ J'.gd⟩ M2
    | _, _ => .bad) :=
  (pi_zipS hg hm (sa2 hn hn2 ha hb) (star_cons hn) (star_none (by simp [hn2]))).w fun σ H R h => by
    obtain ⟨M, ι, sp, m, s, post⟩ := h
    refine ⟨M, ι, sp, m, s, ?_⟩
    have post : PostI G W σ M ι H R (((ca sp M).bind fun p M1 => (cb sp M1).bind fun q M2 => .ok [p, q] M2).bind fun ps M2 => zipK ps M2) := by simp only [bind_assoc]; exact post
    refine PostA.bindI post fun ps M1 ι1 H1 vs m1 e1 r1 post1 => ?_
    unfold zipK at post1
    split at post1
    · obtain ⟨v, w, rfl, rp, rq⟩ := r1.two
      split at post1
      · rename_i J J' e e'
        obtain ⟨S, hv, sr⟩ := srcRep m1 rp e
        obtain ⟨S', hv', sr'⟩ := srcRep m1 rq e'
        have q := post1 ι1 H1 _ m1 .refl (sr.zip sr')
        obtain ⟨vs, h, _⟩ := sr.has M1 ι1 H1 m1 .refl (seqIt_gd e)
        obtain ⟨vs', h', _⟩ := sr'.has M1 ι1 H1 m1 .refl (seqIt_gd e')
        rw [hK]
        exact ⟨S, S', vs, vs', by rw [hv, hv'], h H1 Sub.rfl', h' H1 Sub.rfl', q⟩
      · exact post1.elim
    · exact post1.elim
theorem rngL_get {lo c : Int} {n i : Nat} : (rngL lo c n)[i]? = if i < n then some (.int (lo + (i : Nat) * c)) else none := by
  unfold rngL
  rw [List.getElem?_map]
  by_cases h : i < n
  · rw [List.getElem?_range h, if_pos h]; rfl
  · rw [List.getElem?_eq_none (by simpa using h), if_neg h]; rfl
theorem rngL_len {lo c : Int} {n : Nat} : (rngL lo c n).length = n := by simp [rngL]
theorem itRng {M : Store} {ι : List Addr} {H : Hp} {lo : Int} {n : Nat} (hn : n ≤ sizeLine) : ItRep G ⟨rngL lo 1 n, []⟩ M ι H (Itr lo n) := by
  refine ⟨by rw [rngL_len]; exact hn, fun M' ι' Hd H' i x m' e' g sb hx => ?_, fun M' ι' Hd H' m' e' g sb => ?_⟩
  · rw [rngL_get] at hx
    split at hx
    · rename_i hi
      cases hx
      refine ⟨hi, fun v H'' y => ?_⟩
      obtain ⟨e1, e2⟩ := y
      subst e1 e2
      rw [Int.mul_one]
      exact ⟨Hd, .same, m', .refl, .int _⟩
    · cases hx
  · show n ≤ _
    rw [rngL_len]
    exact Nat.le_refl _
theorem itRngC {M : Store} {ι : List Addr} {H : Hp} {lo c : Int} {n : Nat} (hn : n ≤ sizeLine) : ItRep G ⟨rngL lo c n, []⟩ M ι H (Itc lo c n) := by
  refine ⟨by rw [rngL_len]; exact hn, fun M' ι' Hd H' i x m' e' g sb hx => ?_, fun M' ι' Hd H' m' e' g sb => ?_⟩
  · rw [rngL_get] at hx
    split at hx
    · rename_i hi
      cases hx
      refine ⟨hi, fun v H'' y => ?_⟩
      obtain ⟨e1, e2⟩ := y
      subst e1 e2
      exact ⟨Hd, .same, m', .refl, .int _⟩
    · cases hx
  · show n ≤ _
    rw [rngL_len]
    exact Nat.le_refl _
theorem si_rng1 (hg : Gl X "range") (hm : X.mg "range" = none) (hn : notStar a = true) (ha : PE X a (LE G W ca)) :
    PI X tg (.Call (.Name "range" p) [a] [] pos) (LI G W fun sp M => (ca sp M).bind fun p M1 => match p with
    | .int n => .ofO (rngIt 0 n) M1
    | _ => .bad) :=
  (pi_range1 hg hm (sa1 hn ha) (by rw [star_cons hn]; rfl)).w fun σ H R h => by
    obtain ⟨M, ι, sp, m, s, post⟩ := h
    refine ⟨M, ι, sp, m, s, ?_⟩
    have post : PostI G W σ M ι H R (((ca sp M).bind fun p M1 => .ok [p] M1).bind fun ps M1 => match ps with | [.int n] => .ofO (rngIt 0 n) M1 | _ => .bad) := by
      rw [bind_assoc]
      dsimp only at post
      cases e : ca sp M with
      | ok p M1 =>
        rw [e] at post
        cases p <;> exact post
      | exc x M1 => rw [e] at post; exact post
      | bad => rw [e] at post; exact post
    refine PostA.bindI post fun ps M1 ι1 H1 vs m1 e1 r1 post1 => ?_
    split at post1
    · obtain ⟨v, rfl, rp⟩ := r1.one
      cases rp
      unfold rngIt at post1
      split at post1
      · rename_i hh
        simp only [rngOk, Bool.and_eq_true, decide_eq_true_eq] at hh
        obtain ⟨⟨h1, h2⟩, h3⟩ := hh
        rw [Int.sub_zero] at post1 h3
        exact ⟨_, rfl, h2.1, h2.2, post1 ι1 H1 _ m1 .refl (itRng h3)⟩
      · exact post1.elim
    · exact post1.elim
theorem si_rng2 (hg : Gl X "range") (hm : X.mg "range" = none) (hn : notStar a = true) (hn2 : notStar b = true) (ha : PE X a (LE G W ca)) (hb : PE X b (LE G W cb)) :
    PI X tg (.Call (.Name "range" p) [a, b] [] pos) (LI G W fun sp M => (ca sp M).bind fun p M1 => (cb sp M1).bind fun q M2 => match p, q with
    | .int i, .int j => .ofO (rngIt i j) M2
    | _, _ => .bad) :=
  (pi_range2 hg hm (sa2 hn hn2 ha hb) (by rw [star_cons hn, star_cons hn2]; rfl) (by rw [star_cons hn2]; rfl)).w fun σ H R h => by
    obtain ⟨M, ι, sp, m, s, post⟩ := h
    refine ⟨M, ι, sp, m, s, ?_⟩
    have post : PostI G W σ M ι H R (((ca sp M).bind fun p M1 => (cb sp M1).bind fun q M2 => .ok [p, q] M2).bind fun ps M2 => match ps with | [.int i, .int j] => .ofO (rngIt i j) M2 | _ => .bad) := by
      simp only [bind_assoc]
      dsimp only at post
      cases e : ca sp M with
      | ok p M1 =>
        rw [e] at post
        simp only [Res.bind] at post ⊢
        cases e2 : cb sp M1 with
        | ok q M2 =>
          rw [e2] at post
          cases p <;> cases q <;> exact post
        | exc x M1 => rw [e2] at post; exact post
        | bad => rw [e2] at post; exact post
      | exc x M1 => rw [e] at post; exact post
      | bad => rw [e] at post; exact post
    refine PostA.bindI post fun ps M1 ι1 H1 vs m1 e1 r1 post1 => ?_
    split at post1
    · obtain ⟨v, w, rfl, rp, rq⟩ := r1.two
      cases rp
      cases rq
      unfold rngIt at post1
      split at post1
      · rename_i hh
        simp only [rngOk, Bool.and_eq_true, decide_eq_true_eq] at hh
        obtain ⟨⟨h1, h2⟩, h3⟩ := hh
        exact ⟨_, _, rfl, ⟨h1.1, h1.2, h2.1, h2.2⟩, post1 ι1 H1 _ m1 .refl (itRng h3)⟩
      · exact post1.elim
    · exact post1.elim
theorem si_rng3 (hg : Gl X "range") (hm : X.mg "range" = none) (hn : notStar a = true) (hn2 : notStar b = true) (hn3 : notStar c = true) (ha : PE X a (LE G W ca)) (hb : PE X b (LE G W cb)) (hc : PE X c (LE G W cc)) :
    PI X tg (.Call (.Name "range" p) [a, b, c] [] pos) (LI G W fun sp M => (ca sp M).bind fun p M1 => (cb sp M1).bind fun q M2 => (cc sp M2).bind fun r M3 => match p, q, r with
    | .int i, .int j, .int k => .ofO (rngIt3 i j k) M3
    | _, _, _ => .bad) :=
  (pi_range3 hg hm (sa3 hn hn2 hn3 ha hb hc) (star_cons hn) (star_none (by simp [hn2, hn3]))).w fun σ H R h => by
    obtain ⟨M, ι, sp, m, s, post⟩ := h
    refine ⟨M, ι, sp, m, s, ?_⟩
    have post : PostI G W σ M ι H R (((ca sp M).bind fun p M1 => (cb sp M1).bind fun q M2 => (cc sp M2).bind fun r M3 => .ok [p, q, r] M3).bind fun ps M3 => match ps with | [.int i, .int j, .int k] => .ofO (rngIt3 i j k) M3 | _ => .bad) := by
      simp only [bind_assoc]
      dsimp only at post
      cases e : ca sp M with
      | ok p M1 =>
        rw [e] at post
        simp only [Res.bind] at post ⊢
        cases e2 : cb sp M1 with
        | ok q M2 =>
          rw [e2] at post
          simp only [Res.bind] at post ⊢
          cases e3 : cc sp M2 with
          | ok r M3 =>
            rw [e3] at post
            cases p <;> cases q <;> cases r <;> exact post
          | exc x M1 => rw [e3] at post; exact post
          | bad => rw [e3] at post; exact post
        | exc x M1 => rw [e2] at post; exact post
        | bad => rw [e2] at post; exact post
      | exc x M1 => rw [e] at post; exact post
      | bad => rw [e] at post; exact post
    refine PostA.bindI post fun ps M1 ι1 H1 vs m1 e1 r1 post1 => ?_
    split at post1
    · cases r1 with
      | cons rp r1 =>
        obtain ⟨w, z, rfl, rq, rr⟩ := r1.two
        cases rp
        cases rq
        cases rr
        unfold rngIt3 at post1
        split at post1
        · rename_i hh
          simp only [rngOk, Bool.and_eq_true, decide_eq_true_eq] at hh
          obtain ⟨⟨⟨h1, h2⟩, h3⟩, h4⟩ := hh
          subst h3
          exact ⟨_, _, _, _, rfl, RgC.neg h1.1 h1.2 h2.1 h2.2, post1 ι1 H1 _ m1 .refl (itRngC h4)⟩
        · exact post1.elim
    · exact post1.elim
end
end DI
set_option maxHeartbeats 2000000
/-! # DI: list comprehensions -/
namespace DI
open PySem PySem.Spec L2

theorem _root_.L2.PTs.w {X : Cx} {es : List PySem.Expr} {t t' : TT} (h : PTs X es t) (hw : ∀ σ H Q, t' σ H Q → t σ H Q) : PTs X es t' := ⟨fun pins s σ H Q I q => h.run pins s σ H Q I (hw σ H Q q)⟩
def tLockT (t : TT) : TT := fun σ H Q => ∃ d u, H d = some u ∧ Mut (some u) ∧ ∀ od, t σ (upd H d (.frz od u)) fun v H' => H' d = some (.frz od u) ∧ Q v (upd H' d u)
def W0 : WX := fun _ _ _ _ => False
section
variable {X : Cx} {G : Gd}
theorem pt_lock {e : PySem.Expr} {t : TT} (h : PT X e t) : PT X e (tLockT t) := by
  refine ⟨fun pins s σ H Q I hw => ?_⟩
  obtain ⟨d, u, hd, mu, hw⟩ := hw
  obtain ⟨od, I1⟩ := I.lock hd mu
  refine thn (h.run pins s σ _ _ I1 (hw od)) fun v s1 ⟨H1, I2, e2, q⟩ => ?_
  exact ⟨_, I2.unlock e2 (I.nofrz hd mu), q⟩
theorem sts_nil : PTs X [] (tLockT (LT G W0 fun _ M => .ok true M)) := pts_nil.w fun σ H Q h => by
  obtain ⟨d, u, hd, mu, h⟩ := h
  obtain ⟨M, ι, sp, m, s, post⟩ := h { cls := .none, data := .fields #[] }
  obtain ⟨_, q⟩ := post ι _ m .refl
  have e : upd (upd H d (.frz { cls := .none, data := .fields #[] } u)) d u = H := by
    funext a
    by_cases h : a = d
    · subst h; rw [upd_same, hd]
    · rw [upd_ne h, upd_ne h]
  rw [e] at q
  exact q
theorem sts_one {e : PySem.Expr} {t : TT} (h : PT X e t) : PTs X [e] (tLockT t) := pts_one (pt_lock h)
end
theorem PostI.bind {G : Gd} {W : WX} {σ : St} {M : Store} {ι : List Addr} {H : Hp} {Q : VK} {R : It → Hp → Prop} {r : Res ItV} {k : ItV → Store → Res PV} (h : PostE G W σ M ι H Q (r.bind k))
    (hq : ∀ V M1 ι1 H1 J, MRel G M1 ι1 H1 → Ext M ι H M1 ι1 H1 → ItRep G V M1 ι1 H1 J → PostE G W σ M1 ι1 H1 Q (k V M1) → R J H1) : PostI G W σ M ι H R r := by
  cases r with
  | ok V M1 => exact fun ι1 H1 J a b c => hq V M1 ι1 H1 J a b c (PostE.from (r := k V M1) h b)
  | exc x M1 => exact h
  | bad => exact h
def stepC (t : CT) (vs : List Nat) (cc : Ev Bool) (ce : Ev PV) (sp : Sl) : PV → Store → Res (Option PV) := fun x M2 => match asg t x (wipeP sp vs) with
  | some sp1 => match cc sp1 M2 with
    | .ok true M3 => (ce sp1 M3).bind fun y M4 => .ok (some y) M4
    | .ok false M3 => .ok none M3
    | _ => .bad
  | none => .bad
theorem del_upd_ne {H : Hp} {D T : Addr} {u : HO} (h : T ≠ D) : upd (del H D) T u = del (upd H T u) D := funext fun a => by
  by_cases e : a = T
  · subst e; rw [upd_same, del_ne h, upd_same]
  · by_cases e2 : a = D
    · subst e2; rw [upd_ne e, del_self, del_self]
    · rw [upd_ne e, del_ne e2, del_ne e2, upd_ne e]
theorem sub_del {H : Hp} {D : Addr} : Sub (del H D) H := fun a o h => (del_some h).2
/-- what the turns have so far -/
theorem compR_next {G : Gd} {W : WX} {σ : St} {M : Store} {ι : List Addr} {H : Hp} {Q : VK} {gd : List (Nat × List PV)} {step : PV → Store → Res (Option PV)} {ys : List PV} {x : PV} {xs : List PV} {M0 : Store} {o : Option PV}
    (h : PostE G W σ M ι H Q ((match compR gd step xs M0 with | .ok zs M2 => (.ok (o.toList ++ zs) M2 : Res (List PV)) | _ => .bad).bind fun r M2 => .ok (.lst (ys ++ r)) M2)) :
    PostE G W σ M ι H Q ((compR gd step xs M0).bind fun r M2 => .ok (.lst ((ys ++ o.toList) ++ r)) M2) := by
  cases e : compR gd step xs M0 with
  | ok zs M2 =>
    rw [e] at h
    simp only [Res.bind, List.append_assoc] at h ⊢
    exact h
  | exc x M2 => rw [e] at h; exact h.elim
  | bad => rw [e] at h; exact h.elim
section
variable {X : Cx} {G : Gd} {W : WX} {pos : Pos}
theorem se_comp_w {ci : Ev ItV} {cc : Ev Bool} {ce : Ev PV} {t : CT} {vs : List Nat} (hsl : ∀ i ∈ t.slots, i ∈ vs) {σ : St} {H : Hp} {Q : VK}
    (h : LE G W (fun sp M => (ci sp M).bind fun J M1 => (compR J.gd (stepC t vs cc ce sp) J.items M1).bind fun ys M2 => .ok (.lst ys) M2) σ H Q) :
    tLc (LI G W ci) (LG G t) (tLockT (LT G W0 cc)) (tLockE (LE G W0 ce)) vs σ H Q := by
  obtain ⟨M, ι, sp, m, s, post⟩ := h
  refine ⟨M, ι, sp, m, s, PostI.bind post fun V M1 ι1 H1 J m1 e1 ir post1 => ?_⟩
  intro D hD
  have s1 := s.ext e1
  have hs : G.sw = false → D ≠ G.sa := fun z e => m1.sa z (by rw [← e]; exact hD)
  refine ⟨fun i mm H => ∃ Mi ιi acc ys, mm = V.items.length - i ∧ i ≤ V.items.length ∧ H D = some (.lst acc) ∧ MRel G Mi ιi (del H D) ∧ Ext M1 ι1 H1 Mi ιi (del H D) ∧ Rps G ιi (del H D) (Own Mi ιi) ys acc ∧ ys.length ≤ i ∧
    PostE G W σ Mi ιi (del H D) Q ((compR V.gd (stepC t vs cc ce sp) (V.items.drop i) Mi).bind fun r M2 => .ok (.lst (ys ++ r)) M2), ⟨V.items.length, M1, ι1, [], [], rfl, Nat.zero_le _, upd_same, ?_⟩, ?_⟩
  · rw [del_upd, del_id hD]
    exact ⟨m1, .refl, .nil, Nat.le_refl _, post1⟩
  rintro i mm H ⟨Mi, ιi, acc, ys, rfl, hi, hHD, mi, ei, ry, hl, posti⟩
  have hu : upd (del H D) D (.lst acc) = H := by rw [upd_del, upd_id hHD]
  by_cases hlt : i < V.items.length
  · rw [List.drop_eq_getElem_cons hlt] at posti
    have hx : V.items[i]? = some V.items[i] := List.getElem?_eq_getElem hlt
    generalize V.items[i] = x at hx posti
    unfold compR gdIf at posti
    by_cases hgd : gdOk Mi V.gd
    case neg => rw [if_neg hgd] at posti; exact posti.elim
    rw [if_pos hgd] at posti
    obtain ⟨jgo, jy⟩ := ir.go Mi ιi (del H D) H i x mi ei hgd sub_del hx
    refine .inr ⟨jgo, fun H' => ∃ Mi ιi acc ys, V.items.length - (i + 1) = V.items.length - (i + 1) ∧ i + 1 ≤ V.items.length ∧ H' D = some (.lst acc) ∧ MRel G Mi ιi (del H' D) ∧ Ext M1 ι1 H1 Mi ιi (del H' D) ∧ Rps G ιi (del H' D) (Own Mi ιi) ys acc ∧ ys.length ≤ i + 1 ∧
      PostE G W σ Mi ιi (del H' D) Q ((compR V.gd (stepC t vs cc ce sp) (V.items.drop (i + 1)) Mi).bind fun r M2 => .ok (.lst (ys ++ r)) M2), fun H' hn => ⟨_, by omega, hn⟩, fun v H'' y => ?_⟩
    obtain ⟨Hd', gr, m2, e2, rv⟩ := jy v H'' y
    have hH : Hd' = del H'' D ∧ H'' D = some (.lst acc) := by
      cases gr with
      | same => exact ⟨rfl, hHD⟩
      | one hT =>
        rename_i T u
        have hne : T ≠ D := fun z => by rw [z, hHD] at hT; cases hT
        exact ⟨del_upd_ne hne, by rw [upd_ne (Ne.symm hne)]; exact hHD⟩
    obtain ⟨rfl, hHD2⟩ := hH
    have s2 : SRep G Mi ιi (del H'' D) sp σ := s1.ext (ei.trans e2)
    unfold stepC at posti
    cases ea : asg t x (wipeP sp vs) with
    | none => simp only [ea] at posti; exact posti.elim
    | some sp1 =>
    simp only [ea] at posti
    refine ⟨Mi, ιi, del H'' D, wipeP sp vs, x, sub_del, s2.wipe vs, rv, sp1, ea, fun σ2 sr2 hw => ⟨(hw vs hsl).trans wipe_wipe, D, _, hHD2, trivial, fun od => ?_⟩⟩
    have hDd : (del H'' D) D = none := del_self
    have eu : ∀ o, upd H'' D o = upd (del H'' D) D o := fun o => upd_del.symm
    rw [eu]
    refine ⟨Mi, ιi, sp1, m2.new hDd, sr2.ext (Ext.new hDd), ?_⟩
    cases ec : cc sp1 Mi with
    | bad => simp only [ec] at posti; exact posti.elim
    | exc x M3 => simp only [ec] at posti; exact posti.elim
    | ok b M3 =>
    rw [ec] at posti
    intro ι3 H3 m3 e3
    have hz3 : H3 D = some (.frz od (.lst acc)) := (e3.keep D _ upd_same (m2.not_own hDd)).1
    refine ⟨hz3, ?_⟩
    have m3' := m3.undel hz3 hs
    have e3' := Ext.undel hDd e3
    have eall := ei.trans (e2.trans e3')
    have hdel3 : ∀ o, del (upd H3 D o) D = del H3 D := fun o => del_upd
    cases b with
    | false =>
      show if false = true then _ else _
      rw [if_neg Bool.false_ne_true]
      refine ⟨M3, ι3, acc, ys, rfl, by omega, upd_same, ?_⟩
      rw [hdel3]
      have q := (compR_next (x := x) (o := none) posti).from (e2.trans e3')
      rw [show (none : Option PV).toList = [] from rfl, List.append_nil] at q
      exact ⟨m3', eall, ry.ext (e2.trans e3'), by omega, q⟩
    | true =>
      show if true = true then _ else _
      rw [if_pos rfl]
      refine ⟨D, _, upd_same, trivial, fun od2 => ?_⟩
      have hDd3 : (del H3 D) D = none := del_self
      have eu3 : upd (upd H3 D (.lst acc)) D (.frz od2 (.lst acc)) = upd (del H3 D) D (.frz od2 (.lst acc)) := by
        rw [← upd_del (H := upd H3 D (.lst acc)), hdel3]
      rw [eu3]
      refine ⟨M3, ι3, sp1, m3'.new hDd3, (sr2.ext e3').ext (Ext.new hDd3), ?_⟩
      simp only at posti
      cases ee : ce sp1 M3 with
      | bad => rw [ee] at posti; exact posti.elim
      | exc x M4 => rw [ee] at posti; exact posti.elim
      | ok y M4 =>
      rw [ee] at posti
      intro ι4 H4 w m4 e4 r4
      have hz4 : H4 D = some (.frz od2 (.lst acc)) := (e4.keep D _ upd_same (m3'.not_own hDd3)).1
      have m4' := m4.undel hz4 hs
      have e4' := Ext.undel hDd3 e4
      have le : acc.length = ys.length := ry.length.symm
      have lz := ir.len
      refine ⟨hz4, acc, upd_same, by omega, M4, ι4, acc ++ [w], ys ++ [y], rfl, by omega, upd_same, ?_⟩
      have hd4 : del (upd (upd H4 D (.lst acc)) D (.lst (acc ++ [w]))) D = del H4 D := by rw [del_upd, del_upd]
      rw [hd4]
      refine ⟨m4', eall.trans e4', Rps.append (ry.ext ((e2.trans e3').trans e4')) (.cons (Rp.undel hz4 hs _ _ r4) .nil), by simp; omega, ?_⟩
      exact (compR_next (x := x) (o := some y) posti).from ((e2.trans e3').trans e4')
  · have e : i = V.items.length := by omega
    rw [e, List.drop_length] at posti
    unfold compR gdIf at posti
    by_cases hgd : gdOk Mi V.gd
    case neg => rw [if_neg hgd] at posti; exact posti.elim
    rw [if_pos hgd] at posti
    have hDd : (del H D) D = none := del_self
    refine .inl ⟨by rw [e]; exact ir.stop Mi ιi (del H D) H mi ei hgd sub_del, ?_⟩
    have lz := ir.len
    have mH := mi.new (o := .lst acc) hDd
    have eH := Ext.new (M := Mi) (ι := ιi) (o := .lst acc) hDd
    rw [hu] at mH eH
    refine posti ιi H _ mH eH ?_
    rw [List.append_nil]
    exact .lst ⟨hHD, mi.not_own hDd⟩ (by omega) (ry.ext eH)
theorem se_comp {elt tg iter : PySem.Expr} {ifs : List PySem.Expr} {scope : Scope} {own : List (Str × Nat)} {ci : Ev ItV} {cc : Ev Bool} {ce : Ev PV} {t : CT} (hc : X.calm = true) (hN : X.N.Nodup) (hi : PI X tg iter (LI G W ci)) (ok : BlkOk X.N X.env.scope scope own)
    (hg : ∀ (s : Shared) (H : Hp) (C : Addr) (cl : List (Str × Addr)) (fp : List Addr), PG (X.blk s H scope (compEnvC scope cl C X.env) fp) tg (LG G t))
    (ht : ∀ (s : Shared) (H : Hp) (C : Addr) (cl : List (Str × Addr)) (fp : List Addr), PTs (X.blk s H scope (compEnvC scope cl C X.env) fp) ifs (tLockT (LT G W0 cc)))
    (he : ∀ (s : Shared) (H : Hp) (C : Addr) (cl : List (Str × Addr)) (fp : List Addr), PE (X.blk s H scope (compEnvC scope cl C X.env) fp) elt (LE G W0 ce))
    (hs : ∀ x, foldedSetIterable iter X.env x = pure x) (hsl : ∀ i ∈ t.slots, i ∈ own.map (·.2)) :
    PE X (.ListComp elt [⟨tg, iter, ifs, 0⟩] scope pos) (LE G W fun sp M => (ci sp M).bind fun J M1 => (compR J.gd (stepC t (own.map (·.2)) cc ce sp) J.items M1).bind fun ys M2 => .ok (.lst ys) M2) :=
  (pe_lc hc hN hi ok hg ht (fun s H C cl fp => pe_lock (he s H C cl fp)) hs).w fun σ H Q h => se_comp_w hsl h
theorem ss_setLc {i : Nat} {y : Str} {py spos : Pos} {elt tg iter : PySem.Expr} {ifs : List PySem.Expr} {scope : Scope} {own : List (Str × Nat)} {ci : Ev ItV} {cc : Ev Bool} {ce : Ev PV} {t : CT} (hc : X.calm = true) (hN : X.N.Nodup) (hy : X.N[i]? = some y) (hyl : X.env.scope.names.lookup y = some .local)
    (hsw : swapsWith (.ListComp elt [⟨tg, iter, ifs, 0⟩] scope pos) (some (.Name y py)) spos.line X.env = pure true) (hi : PI X tg iter (LI G W ci)) (ok : BlkOk X.N X.env.scope scope own)
    (hg : ∀ (s : Shared) (H : Hp) (C : Addr) (cl : List (Str × Addr)) (fp : List Addr), PG (X.blk s H scope (compEnvC scope cl C X.env) fp) tg (LG G t))
    (ht : ∀ (s : Shared) (H : Hp) (C : Addr) (cl : List (Str × Addr)) (fp : List Addr), PTs (X.blk s H scope (compEnvC scope cl C X.env) fp) ifs (tLockT (LT G W0 cc)))
    (he : ∀ (s : Shared) (H : Hp) (C : Addr) (cl : List (Str × Addr)) (fp : List Addr), PE (X.blk s H scope (compEnvC scope cl C X.env) fp) elt (LE G W0 ce))
    (hs : ∀ x, foldedSetIterable iter X.env x = pure x) (hsl : ∀ i ∈ t.slots, i ∈ own.map (·.2)) :
    PS X (.Assign [.Name y py] (.ListComp elt [⟨tg, iter, ifs, 0⟩] scope pos) spos) (tAsg (LE G W fun sp M => (ci sp M).bind fun J M1 => (compR J.gd (stepC t (own.map (·.2)) cc ce sp) J.items M1).bind fun ys M2 => .ok (.lst ys) M2) (gName i)) :=
  (ps_setLc hc hN hy hyl hsw hi ok hg ht (fun s H C cl fp => pe_lock (he s H C cl fp)) hs).w fun D σ H h => se_comp_w hsl h
end
end DI
set_option maxHeartbeats 2000000
/-! # DI: and, or, tests, calls of built-in functions, append -/
namespace DI
open PySem PySem.Spec L2

section
variable {G : Gd} {W : WX} {X : Cx} {pos p : Pos} {a b c e : PySem.Expr} {rest es : List PySem.Expr} {ca cb cc cr : Ev PV}
theorem se_and (ha : PE X a (LE G W ca)) (hb : PE X (.BoolOp .And (b :: rest) pos) (LE G W cr)) : PE X (.BoolOp .And (a :: b :: rest) pos) (LE G W fun sp M => (ca sp M).bind (andK (cr sp))) :=
  (pe_and ha hb).w fun σ H Q h => by
    obtain ⟨M, ι, sp, m, s, post⟩ := h
    refine ⟨M, ι, sp, m, s, post.bind fun p M1 ι1 H1 v m1 e1 r1 post1 => ?_⟩
    unfold andK at post1
    split at post1
    · cases r1; exact ⟨true, rfl, by rw [if_pos rfl]; exact ⟨_, ι1, sp, m1, s.ext e1, post1⟩⟩
    · cases r1; exact ⟨false, rfl, by rw [if_neg Bool.false_ne_true]; exact post1 ι1 H1 _ m1 .refl (.bl _)⟩
    · exact post1.elim
theorem se_or (ha : PE X a (LE G W ca)) (hb : PE X (.BoolOp .Or (b :: rest) pos) (LE G W cr)) : PE X (.BoolOp .Or (a :: b :: rest) pos) (LE G W fun sp M => (ca sp M).bind (orK (cr sp))) :=
  (pe_or ha hb).w fun σ H Q h => by
    obtain ⟨M, ι, sp, m, s, post⟩ := h
    refine ⟨M, ι, sp, m, s, post.bind fun p M1 ι1 H1 v m1 e1 r1 post1 => ?_⟩
    unfold orK at post1
    split at post1
    · cases r1; exact ⟨true, rfl, by rw [if_pos rfl]; exact post1 ι1 H1 _ m1 .refl (.bl _)⟩
    · cases r1; exact ⟨false, rfl, by rw [if_neg Bool.false_ne_true]; exact ⟨_, ι1, sp, m1, s.ext e1, post1⟩⟩
    · exact post1.elim
/-! ### tests -/
theorem LT.le {σ : St} {H : Hp} {Q : Bool → Hp → Prop} (h : LT G W (fun sp M => evTr (ca sp M)) σ H Q) : LE G W ca σ H fun x H1 => ∃ k, x = .bl k ∧ Q k H1 := by
  obtain ⟨M, ι, sp, m, s, post⟩ := h
  refine ⟨M, ι, sp, m, s, PostE.bindT post fun p M1 ι1 H1 v m1 e1 r1 post1 => ?_⟩
  split at post1
  · cases r1; exact ⟨_, rfl, post1 ι1 H1 m1 .refl⟩
  · exact post1.elim
theorem st_val (hp : plainT e = true) (he : PE X e (LE G W ca)) : PT X e (LT G W fun sp M => evTr (ca sp M)) :=
  (pt_val he (isTrue_of hp)).w fun σ H Q h => h.le
theorem st_cmp (hK : X.K = G.K) (hu : X.A.units + 66 < cLine) {op : CmpOp} (hn : notSet b = true) (ha : PE X a (LE G W ca)) (hb : PE X b (LE G W cb)) : PT X (.Compare a [op] [b] pos) (LT G W fun sp M => evTr ((ca sp M).bind fun p M1 => (cb sp M1).bind fun q M2 => .ofO (cmpP op M2 p q) M2)) :=
  (pt_cmpR (pr_cmp hK (by omega) op) ha hb (behind_of hn)).w fun σ H Q h => h.le.two
theorem st_cmp2 (hK : X.K = G.K) (hu : X.A.units + 66 < cLine) {op op2 : CmpOp} (ha : PE X a (LE G W ca)) (hb : PE X b (LE G W cb)) (hc : PE X c (LE G W cc)) (hl : lastMarks [op, op2] [b, c] = false) :
    PT X (.Compare a [op, op2] [b, c] pos) (LT G W fun sp M => evTr ((ca sp M).bind fun p M1 => (cb sp M1).bind fun q M2 => match cmpP op M2 p q with
    | some (.bl true) => (cc sp M2).bind fun r M3 => .ofO (cmpP op2 M3 q r) M3
    | some (.bl false) => .ok (.bl false) M2
    | _ => .bad)) :=
  (pt_chain (pr_cmp hK (by omega) op) (pr_cmp hK (by omega) op2) ha hb hc hl).w fun σ H Q h => chain_w h.le
theorem st_not (ha : PT X a (LT G W fun sp M => evTr (ca sp M))) : PT X (.UnaryOp .Not a pos) (LT G W fun sp M => evTr ((ca sp M).bind fun p M1 => match p with | .bl b => .ok (.bl (!b)) M1 | _ => .bad)) :=
  (pt_not ha).w fun σ H Q h => by
    obtain ⟨M, ι, sp, m, s, post⟩ := h
    refine ⟨M, ι, sp, m, s, ?_⟩
    dsimp only at post ⊢
    cases e : ca sp M with
    | bad => rw [e] at post; exact post
    | exc x M1 => rw [e] at post; exact post
    | ok p M1 =>
      rw [e] at post
      cases p <;> exact post
theorem st_and (ha : PT X a (LT G W fun sp M => evTr (ca sp M))) (hb : PW X (.BoolOp .And (b :: rest) pos) (LT G W fun sp M => evTr (cr sp M))) : PW X (.BoolOp .And (a :: b :: rest) pos) (LT G W fun sp M => evTr ((ca sp M).bind (andK (cr sp)))) :=
  (pw_and ha hb).w fun σ H Q h => by
    obtain ⟨M, ι, sp, m, s, post⟩ := h
    refine ⟨M, ι, sp, m, s, PostT.bindT (Q := Q) (r := evTr (ca sp M)) (k := fun k M1 => if k = true then evTr (cr sp M1) else .ok false M1) ?_ fun k M1 ι1 H1 m1 e1 post1 => ?_⟩
    · dsimp only at post ⊢
      cases e : ca sp M with
      | bad => rw [e] at post; exact post
      | exc x M1 => rw [e] at post; exact post
      | ok p M1 =>
        rw [e] at post
        cases p with
        | bl k => cases k <;> exact post
        | _ => exact post
    · cases k with
      | true => rw [if_pos rfl] at post1 ⊢; exact ⟨_, ι1, sp, m1, s.ext e1, post1⟩
      | false => rw [if_neg Bool.false_ne_true] at post1 ⊢; exact post1 ι1 H1 m1 .refl
theorem st_or (ha : PT X a (LT G W fun sp M => evTr (ca sp M))) (hb : PW X (.BoolOp .Or (b :: rest) pos) (LT G W fun sp M => evTr (cr sp M))) : PW X (.BoolOp .Or (a :: b :: rest) pos) (LT G W fun sp M => evTr ((ca sp M).bind (orK (cr sp)))) :=
  (pw_or ha hb).w fun σ H Q h => by
    obtain ⟨M, ι, sp, m, s, post⟩ := h
    refine ⟨M, ι, sp, m, s, PostT.bindT (Q := Q) (r := evTr (ca sp M)) (k := fun k M1 => if k = true then .ok true M1 else evTr (cr sp M1)) ?_ fun k M1 ι1 H1 m1 e1 post1 => ?_⟩
    · dsimp only at post ⊢
      cases e : ca sp M with
      | bad => rw [e] at post; exact post
      | exc x M1 => rw [e] at post; exact post
      | ok p M1 =>
        rw [e] at post
        cases p with
        | bl k => cases k <;> exact post
        | _ => exact post
    · cases k with
      | true => rw [if_pos rfl] at post1 ⊢; exact post1 ι1 H1 m1 .refl
      | false => rw [if_neg Bool.false_ne_true] at post1 ⊢; exact ⟨_, ι1, sp, m1, s.ext e1, post1⟩
/-! ### calls of built-in functions -/
theorem pr_bi (hK : X.K = G.K) (hc : X.calm = true) (hg : X.A.guards = some []) (hu : X.A.units + 66 < cLine) : ∀ b : BI, CallR X (biV b) (LRN G (biP b))
  | .len => pr_len hK
  | .abs => pr_abs
  | .int => pr_intF
  | .sum => pr_sum hc
  | .all => pr_all hc
  | .any => pr_any hc
  | .tuple => pr_tuple hK
  | .list => pr_list hK
  | .min => pr_min hK hu hc
  | .max => pr_max hK hu hc
  | .repr => pr_repr hK hg hu
  | .isinst => pr_isinst hK
theorem bi_boot : ∀ b : BI, bootBuiltins (biNm b) = some (biV b) := by
  intro b; cases b <;> decide +kernel
theorem se_callB {bi : BI} {car : Ev (List PV)} (hr : CallR X (biV bi) (LRN G (biP bi))) (hg : Gl X (biNm bi)) (hm : X.mg (biNm bi) = none) (hns : (e :: es).all notStar = true) (ha : PA X (e :: es) (LA G W car)) :
    PE X (.Call (.Name (biNm bi) p) (e :: es) [] pos) (LE G W fun sp M => (car sp M).bind fun ps M1 => .ofO (biP bi M1 ps) M1) := by
  rw [List.all_cons, Bool.and_eq_true] at hns
  have hb := bi_boot bi
  cases bi <;> first
    | exact (pe_callB hr hg hm hb ha (by decide) (by decide) (star_cons hns.1) (star_none hns.2)).w fun σ H Q h => LA.call h
    | exact (pe_callTy hr hg hm hb ha (by decide) (by decide) (star_cons hns.1) (star_none hns.2)).w fun σ H Q h => LA.call h
/-! ### methods of lists -/
def LM (G : Gd) (m : BM) : V → List V → Hp → VK → Prop := fun x vs H Q => ∃ M ι p ps, MRel G M ι H ∧ Rp G ι H (Own M ι) p x ∧ Rps G ι H (Own M ι) ps vs ∧ match bmP m M p ps with
  | some (r, M') => ∀ ι' H' v, MRel G M' ι' H' → Ext M ι H M' ι' H' → Rp G ι' H' (Own M' ι') r v → Q v H'
  | none => False
def bmId : BM → String
  | .append => "list.append" | .pop => "list.pop" | .extend => "list.extend"
theorem lm_append {x : V} {vs : List V} {H : Hp} {Q : VK} (h : LM G .append x vs H Q) : rAppend x vs H Q := by
  obtain ⟨M, ι, p, ps, m, r, rs, post⟩ := h
  unfold bmP at post
  split at post
  case h_2 => exact post.elim
  rename_i hh
  split at hh
  · rename_i n q
    split at hh
    · rename_i xs hx
      split at hh
      · rename_i hz
        cases hh
        obtain ⟨a, ws, rfl, h1, h2, h3, h4, h5⟩ := m.lstAt hx r
        obtain ⟨v, rfl, rv⟩ := rs.one
        have hl := h5.length
        refine ⟨a, ws, v, rfl, rfl, h3, by omega, post ι _ _ (m.writeL h2 h1 (by simp; omega) (h5.append (.cons rv .nil))) (Ext.write h2 h1) .non⟩
      · cases hh
    · cases hh
  · cases hh
theorem tyM_tyV {K : PySem.W.Frag} {M : Store} {ι : List Addr} {H : Hp} (m : MRel G M ι H) {p : PV} {x : V} (r : Rp G ι H (Own M ι) p x) (h : tyM M p = true) : tyV K "list" x H := by
  unfold tyM at h
  split at h
  · cases e : lstAt M _ with
    | none => rw [e] at h; cases h
    | some xs =>
      obtain ⟨a, ws, rfl, h1, h2, h3, h4, h5⟩ := m.lstAt e r
      exact .inl ⟨rfl, ws, SqL.of h3⟩
  · cases h
theorem bm_all {x : PySem.Expr} {xs : List PySem.Expr} {cpos : Pos} {env : Env} (hns : (x :: xs).all notStar = true) (hl : xs.length < 28) : ((backTo cpos (starEach (x :: xs) env)).all (fun x => !x.1) && (backToKw cpos (keywordEach [] env)).all (fun x => x.1.isSome)
      && decide ((x :: xs).length + ([] : List Keyword).length + (if ([] : List Keyword).isEmpty then 0 else 1) < 30)) = true := by
  have h1 : ∀ {es : List PySem.Expr}, es.all notStar = true → (backTo cpos (starEach es env)).all (fun x => !x.1) = true := fun {es} => by
    induction es with
    | nil => exact fun _ => rfl
    | cons e es ih =>
      intro h
      rw [List.all_cons, Bool.and_eq_true] at h
      rw [star_cons h.1]
      show (!false && (backTo cpos (starEach es env)).all (fun x => !x.1)) = true
      rw [ih h.2]
      rfl
  rw [h1 hns]
  simp only [List.length_cons, List.length_nil, List.isEmpty_nil, if_true, Bool.true_and, Bool.and_eq_true, decide_eq_true_eq]
  exact ⟨rfl, by omega⟩
theorem se_append {o : PySem.Expr} {apos cpos : Pos} {co : Ev PV} {car : Ev (List PV)} (hn : notCall o = true) (hns : (e :: es).all notStar = true) (hle : es.length < 28) (hline : (apos.endLine == cpos.line) = true) (ho : PE X o (LE G W co)) (ha : PA X (e :: es) (LA G W car)) :
    PE X (.Call (.Attribute o "append" apos) (e :: es) [] cpos) (LE G W fun sp M => (co sp M).bind fun p M1 => if tyM M1 p = true then (car sp M1).bind fun ps M2 => bmR .append M2 p ps else .bad) := by
  have hns' := hns
  rw [List.all_cons, Bool.and_eq_true] at hns'
  refine (pe_bm PySem.F.plainAttrs_list PySem.F.slot_list_append PySem.F.type_list_append mt_append ho ha (base_of hn) (bm_all hns hle) hline (star_cons hns'.1) (star_none hns'.2)).w fun σ H Q h => ?_
  obtain ⟨M, ι, sp, m, s, post⟩ := h
  refine ⟨M, ι, sp, m, s, post.bind fun p M1 ι1 H1 v m1 e1 r1 post1 => ?_⟩
  split at post1
  · rename_i ht
    refine ⟨tyM_tyV m1 r1 ht, M1, ι1, sp, m1, s.ext e1, PostA.bind post1 fun ps M2 ι2 H2 vs m2 e2 r2 post2 => lm_append ⟨M2, ι2, p, ps, m2, r1.ext e2, r2, ?_⟩⟩
    cases hh : bmP .append M2 p ps with
    | none =>
      simp only [bmR, hh] at post2
      exact post2.elim
    | some q =>
      obtain ⟨r, M3⟩ := q
      simp only [bmR, hh] at post2
      first
        | exact post2
        | (rw [hh]; exact post2)
        | (simp only [hh]; exact post2)
  · exact post1.elim
end
end DI
set_option maxHeartbeats 4000000
/-! # DI: sorted(set(..)) of tuples of ints -/
namespace DI
open PySem PySem.Spec L2

/-! ### sorted lists -/
theorem strict_eq {α : Type} (f : α → Int) : ∀ {l m : List α}, l.Pairwise (fun x y => f x < f y) → m.Pairwise (fun x y => f x < f y) → (∀ x, x ∈ l ↔ x ∈ m) → l = m
  | [], m, _, _, h => by
    cases m with
    | nil => rfl
    | cons b m => exact absurd ((h b).mpr List.mem_cons_self) (by simp)
  | a :: l, [], _, _, h => absurd ((h a).mp List.mem_cons_self) (by simp)
  | a :: l, b :: m, hl, hm, h => by
    rw [List.pairwise_cons] at hl hm
    have e : a = b := by
      rcases List.mem_cons.mp ((h a).mp List.mem_cons_self) with e | e
      · exact e
      · rcases List.mem_cons.mp ((h b).mpr List.mem_cons_self) with e2 | e2
        · exact e2.symm
        · have h1 := hm.1 a e
          have h2 := hl.1 b e2
          omega
    subst e
    congr 1
    refine strict_eq f hl.2 hm.2 fun x => ⟨fun hx => ?_, fun hx => ?_⟩
    · rcases List.mem_cons.mp ((h x).mp (List.mem_cons_of_mem _ hx)) with e | e
      · have := hl.1 x hx
        subst e
        omega
      · exact e
    · rcases List.mem_cons.mp ((h x).mpr (List.mem_cons_of_mem _ hx)) with e | e
      · have := hm.1 x hx
        subst e
        omega
      · exact e
theorem mem_insT {B : Int} {x : List Int} : ∀ {l : List (List Int)} {y : List Int}, y ∈ insT B x l → y = x ∨ y ∈ l
  | [], y, h => by
    simp only [insT, List.mem_singleton] at h
    exact .inl h
  | z :: l, y, h => by
    unfold insT at h
    split at h
    · rcases List.mem_cons.mp h with h | h
      · exact .inl h
      · exact .inr h
    · split at h
      · exact .inr h
      · rcases List.mem_cons.mp h with h | h
        · exact .inr (h ▸ List.mem_cons_self)
        · exact (mem_insT h).imp id (List.mem_cons_of_mem _)
theorem insT_of {B : Int} {x : List Int} : ∀ {l : List (List Int)} {y : List Int}, y ∈ l → y ∈ insT B x l
  | z :: l, y, h => by
    unfold insT
    split
    · exact List.mem_cons_of_mem _ h
    · split
      · exact h
      · rcases List.mem_cons.mp h with h | h
        · exact h ▸ List.mem_cons_self
        · exact List.mem_cons_of_mem _ (insT_of h)
theorem insT_self {B : Int} {x : List Int} : ∀ {l : List (List Int)}, (∀ y ∈ l, codeI B x = codeI B y → x = y) → x ∈ insT B x l
  | [], _ => by simp [insT]
  | z :: l, inj => by
    unfold insT
    split
    · exact List.mem_cons_self
    · split
      · rename_i e
        exact inj z List.mem_cons_self e ▸ List.mem_cons_self
      · exact List.mem_cons_of_mem _ (insT_self fun y hy => inj y (List.mem_cons_of_mem _ hy))
theorem insT_sorted {B : Int} {x : List Int} : ∀ {l : List (List Int)}, l.Pairwise (fun x y => codeI B x < codeI B y) → (insT B x l).Pairwise (fun x y => codeI B x < codeI B y)
  | [], _ => by simp [insT]
  | z :: l, h => by
    rw [List.pairwise_cons] at h
    unfold insT
    split
    · rename_i hlt
      refine List.pairwise_cons.mpr ⟨fun y hy => ?_, List.pairwise_cons.mpr h⟩
      rcases List.mem_cons.mp hy with e | e
      · subst e; exact hlt
      · have := h.1 y e
        omega
    · split
      · exact List.pairwise_cons.mpr h
      · refine List.pairwise_cons.mpr ⟨fun y hy => ?_, insT_sorted h.2⟩
        rcases mem_insT hy with e | e
        · subst e; omega
        · exact h.1 y e
theorem sortT_sorted {B : Int} : ∀ l : List (List Int), (sortT B l).Pairwise (fun x y => codeI B x < codeI B y)
  | [] => .nil
  | x :: l => insT_sorted (sortT_sorted l)
theorem mem_sortT {B : Int} : ∀ {l : List (List Int)} {x : List Int}, x ∈ sortT B l → x ∈ l
  | _ :: _, _, h => (mem_insT h).elim (fun e => e ▸ List.mem_cons_self) fun h => List.mem_cons_of_mem _ (mem_sortT h)
theorem sortT_of {B : Int} : ∀ {l : List (List Int)}, (∀ x ∈ l, ∀ y ∈ l, codeI B x = codeI B y → x = y) → ∀ x ∈ l, x ∈ sortT B l
  | z :: l, inj, x, h => by
    unfold sortT
    rcases List.mem_cons.mp h with e | e
    · subst e
      exact insT_self fun y hy => inj x List.mem_cons_self y (List.mem_cons_of_mem _ (mem_sortT hy))
    · exact insT_of (sortT_of (fun x hx y hy => inj x (List.mem_cons_of_mem _ hx) y (List.mem_cons_of_mem _ hy)) x e)
theorem code_inj {B : Int} : ∀ {k m : List Int}, k.length = m.length → TS.Bd B k → TS.Bd B m → TS.code B k = TS.code B m → k = m
  | [], [], _, _, _, _ => rfl
  | d :: r, e :: q, hl, h1, h2, h => by
    have hl' : r.length = q.length := by simpa using hl
    rcases Int.lt_trichotomy d e with z | z | z
    · have := TS.code_lt hl' h1.tail h2.tail z
      omega
    · subst z
      have hh : TS.code B r = TS.code B q := by
        have h' : d * B ^ r.length + TS.code B r = d * B ^ q.length + TS.code B q := h
        rw [hl'] at h'
        omega
      rw [code_inj hl' h1.tail h2.tail hh]
    · have := TS.code_lt hl'.symm h2.tail h1.tail z
      omega
theorem bdB_ok {B : Int} {d : Nat} {k : List Int} (h : bdB B d k = true) : k.length = d ∧ TS.Bd B k := by
  unfold bdB at h
  simp only [Bool.and_eq_true, decide_eq_true_eq, List.all_eq_true] at h
  exact ⟨h.1, fun i hi => h.2 i hi⟩
/-- L' is the sorted list -/
theorem sortT_eq {B : Int} {d : Nat} {ks : List (List Int)} {L : List (Addr × List Int)} (hk : ∀ k ∈ ks, k.length = d ∧ TS.Bd B k) (h1 : ∀ q ∈ L, q.2 ∈ ks) (h2 : ∀ k ∈ ks, k ∈ L.map (·.2)) (nd : (L.map (·.2)).Nodup)
    (pw : L.Pairwise (fun q r => TS.code B q.2 ≤ TS.code B r.2)) : L.map (·.2) = sortT B ks := by
  have inj : ∀ x ∈ ks, ∀ y ∈ ks, codeI B x = codeI B y → x = y := fun x hx y hy e => code_inj ((hk x hx).1.trans (hk y hy).1.symm) (hk x hx).2 (hk y hy).2 e
  have hL : ∀ k ∈ L.map (·.2), k ∈ ks := fun k hm => by
    obtain ⟨q, hq, rfl⟩ := List.mem_map.mp hm
    exact h1 q hq
  refine strict_eq (codeI B) ?_ (sortT_sorted ks) fun x => ⟨fun hx => sortT_of inj x (hL x hx), fun hx => h2 x (mem_sortT hx)⟩
  have pw' : (L.map (·.2)).Pairwise (fun x y => TS.code B x ≤ TS.code B y) := List.pairwise_map.mpr pw
  have key : ∀ {m : List (List Int)}, (∀ k ∈ m, k ∈ ks) → m.Nodup → m.Pairwise (fun x y => TS.code B x ≤ TS.code B y) → m.Pairwise (fun x y => codeI B x < codeI B y) := fun {m} hm => by
    induction m with
    | nil => exact fun _ _ => .nil
    | cons a m ih =>
      intro nd pw
      rw [List.nodup_cons] at nd
      rw [List.pairwise_cons] at pw
      refine List.pairwise_cons.mpr ⟨fun y hy => ?_, ih (fun k hk => hm k (List.mem_cons_of_mem _ hk)) nd.2 pw.2⟩
      have h3 : codeI B a ≤ codeI B y := pw.1 y hy
      have h4 : codeI B a ≠ codeI B y := fun e => nd.1 (inj a (hm a List.mem_cons_self) y (hm y (List.mem_cons_of_mem _ hy)) e ▸ hy)
      omega
  exact key hL nd pw'
section
variable {G : Gd} {M : Store} {ι : List Addr} {H : Hp}
/-- the tuples of a list, by their places -/
theorem Rps.tups : ∀ {xs : List PV} {vs : List V} {ks : List (List Int)}, Rps G ι H (Own M ι) xs vs → intTups xs = some ks → ∃ ls : List (Addr × List Int), vs = ls.map (fun q => V.ref q.1) ∧ ls.map (·.2) = ks ∧ ∀ q ∈ ls, FxT G.K (Own M ι) H q.1 (q.2.map V.int) ∧ q.2.length ≤ sizeLine
  | _, _, ks, .nil, e => by
    simp only [intTups] at e
    cases e
    exact ⟨[], rfl, rfl, nofun⟩
  | _, _, ks, .cons (p := p) r t, e => by
    cases p with
    | tup ps =>
      simp only [intTups] at e
      cases e1 : DI.intsOf ps with
      | none => rw [e1] at e; cases e
      | some k =>
        cases e2 : intTups _ with
        | none => rw [e1, e2] at e; cases e
        | some ks' =>
          rw [e1, e2] at e
          cases e
          obtain ⟨ls, h1, h2, h3⟩ := t.tups e2
          cases r with
          | tup k1 k2 k3 =>
            rename_i a vs'
            have hv := k3.intsOf e1
            subst hv
            have hl := k3.length
            simp only [List.length_map] at hl
            refine ⟨(a, k) :: ls, by rw [h1]; rfl, by simp [h2], fun q hq => ?_⟩
            rcases List.mem_cons.mp hq with e | e
            · subst e
              exact ⟨k1, by show k.length ≤ sizeLine; omega⟩
            · exact h3 q e
    | _ => simp [intTups] at e
theorem Rps.ofTups (e0 : ∀ q : Addr × List Int, q ∈ ([] : List (Addr × List Int)) → False) : ∀ {L : List (Addr × List Int)}, (∀ q ∈ L, FxT G.K (Own M ι) H q.1 (q.2.map V.int) ∧ q.2.length ≤ sizeLine) → Rps G ι H (Own M ι) ((L.map (·.2)).map fun k => .tup (k.map .int)) (L.map fun q => V.ref q.1)
  | [], _ => .nil
  | q :: L, h => .cons (.tup (h q List.mem_cons_self).1 (by simpa using (h q List.mem_cons_self).2) (Rps.ints q.2)) (Rps.ofTups e0 fun q hq => h q (List.mem_cons_of_mem _ hq))
end
section
variable {G : Gd} {W : WX} {X : Cx} {pos p p2 pos2 : Pos} {z : PySem.Expr} {cz : Ev PV}
theorem boot_sorted' : bootBuiltins "sorted" = some (.builtin "sorted") := by decide +kernel
theorem boot_set' : bootBuiltins "set" = some (.type "set") := by decide +kernel
theorem se_sset (hK : X.K = G.K) (hc : X.calm = true) (hu : X.A.units + 66 < cLine) (hg : Gl X "sorted") (hm : X.mg "sorted" = none) (hg2 : Gl X "set") (hm2 : X.mg "set" = none) (hn : notStar z = true) (ha : PE X z (LE G W cz)) :
    PE X (.Call (.Name "sorted" p) [.Call (.Name "set" p2) [z] [] pos2] [] pos) (LE G W fun sp M => (cz sp M).bind fun p M1 => .ofO (ssetP M1 p) M1) := by
  refine (pe_callB (cr_sortedT hc) hg hm boot_sorted' (pa_cons (pe_callTy (cr_setOfT hc (by omega)) hg2 hm2 boot_set' (sa1 hn ha) (by decide) (by decide) (by rw [star_cons hn]) rfl) pa_nil (star_cons (e := .Call (.Name "set" p2) [z] [] pos2) rfl)) (by decide) (by decide) (star_cons (e := .Call (.Name "set" p2) [z] [] pos2) rfl) rfl).w fun σ H Q h => ?_
  obtain ⟨M, ι, sp, m, s, post⟩ := h
  refine ⟨M, ι, sp, m, s, PostA.bind (Q := Q) (k := fun ps M1 => match ps with
    | [p] => .ofO (ssetP M1 p) M1
    | _ => .bad) ?_ fun ps M1 ι1 H1 vs m1 e1 r1 post1 => ?_⟩
  · dsimp only at post ⊢
    rw [bind_assoc]
    exact post
  split at post1
  case h_2 => exact post1.elim
  obtain ⟨v, rfl, rp⟩ := r1.one
  rename_i p0
  cases er : ssetP M1 p0 with
  | none => rw [er] at post1; exact post1.elim
  | some r =>
  rw [er] at post1
  unfold ssetP at er
  split at er
  case h_2 => cases er
  rename_i xs hx
  split at er
  case h_2 => cases er
  rename_i ks hks
  dsimp only at er
  split at er
  case isFalse => cases er
  rename_i hh
  cases er
  simp only [Bool.and_eq_true, decide_eq_true_eq, List.all_eq_true] at hh
  obtain ⟨⟨hd, hlen⟩, hB⟩ := hh
  obtain ⟨a, ws, rfl, h3, h4, h5⟩ := m1.itemsL hx rp
  obtain ⟨ls, rfl, hls, hf⟩ := h5.tups hks
  subst hls
  have hall : ∀ k ∈ ls.map (·.2), k.length = ((ls.map (·.2)).headD [0]).length ∧ TS.Bd srtB k := fun k hk => bdB_ok (hB k hk)
  refine ⟨a, ls, rfl, SqL.of h3, fun q hq => hK ▸ (hf q hq).1.sq, by simpa using hlen, fun b L hb hL1 hL2 => ?_⟩
  have mn := m1.new (o := SetTO X.prog X.w b L) hb
  have en := Ext.new (M := M1) (ι := ι1) (o := SetTO X.prog X.w b L) hb
  refine ⟨b, L, ((ls.map (·.2)).headD [0]).length, srtB, rfl, upd_same, fun q hq => hK ▸ (en.fxT (hf q (hL1 q hq)).1).sq, hd, fun q hq => hall _ (List.mem_map.mpr ⟨q, hL1 q hq, rfl⟩), fun L' pp perm nd hl' pw hp => ?_⟩
  have hL' : ∀ q ∈ L', q ∈ ls := fun q hq => hL1 q (perm.mem_iff.mp hq)
  have heq := sortT_eq (B := srtB) (ks := ls.map (·.2)) (L := L') hall (fun q hq => List.mem_map.mpr ⟨q, hL' q hq, rfl⟩) (fun k hk => by
    obtain ⟨q, hq, rfl⟩ := List.mem_map.mp hk
    obtain ⟨q', hq', e⟩ := List.mem_map.mp (hL2 q hq)
    exact List.mem_map.mpr ⟨q', perm.mem_iff.mpr hq', e⟩) nd pw
  rw [← heq] at post1
  have rr : Rps G ι1 (upd H1 b (SetTO X.prog X.w b L)) (Own M1 ι1) ((L'.map (·.2)).map fun k => .tup (k.map .int)) (L'.map fun q => V.ref q.1) := (Rps.ofTups (fun q h => by simp at h) fun q hq => hf q (hL' q hq)).ext en
  have hz : ((L'.map (·.2)).map fun k => PV.tup (k.map .int)).length ≤ sizeLine := by
    simp only [List.length_map]
    have : 64 ≤ sizeLine := by decide
    omega
  exact post1 ι1 _ _ (mn.new hp) (en.trans (Ext.new hp)) (mn.newRl hp hz rr)
end
end DI
set_option maxHeartbeats 2000000
/-! # DI: code and syntax agree (a test), and then the code's value is what the syntax gives -/
namespace DI
open PySem PySem.Spec L2

def isTup : PySem.Expr → Bool
  | .Tuple .. => true
  | _ => false
def btys : List (Str × String) := [("int", "int"), ("str", "str"), ("bool", "bool"), ("list", "list"), ("tuple", "tuple"), ("dict", "dict"), ("set", "set")]
theorem btys_boot : ∀ p ∈ btys, bootBuiltins p.1 = some (.type p.2) ∧ p.1 ≠ "__name__" := by
  intro p hp
  simp only [btys, List.mem_cons, List.not_mem_nil, or_false] at hp
  rcases hp with rfl | rfl | rfl | rfl | rfl | rfl | rfl <;> exact ⟨by decide +kernel, by decide +kernel⟩
mutual
def chkT (N : List Str) (sc : Scope) (fb : Str → Bool) (t : CT) (e : PySem.Expr) : Bool := match t with
  | .name i => match e with
    | .Name x _ => decide (N[i]? = some x) && locB sc x && (fb x || decide (sc.names.lookup x = some .local))
    | _ => false
  | .tup ts => match e with
    | .Tuple es _ _ => es.all notStar && decide (es.length = ts.length) && chkTs N sc fb ts es
    | _ => false
def chkTs (N : List Str) (sc : Scope) (fb : Str → Bool) (ts : List CT) (es : List PySem.Expr) : Bool := match ts with
  | [] => es.isEmpty
  | t :: ts => match es with
    | e :: es => notStar e && chkT N sc fb t e && chkTs N sc fb ts es
    | [] => false
end
section
variable (T : Tab) (N : List Str)
mutual
/-- k: as a test too -/
def chkE (sc : Scope) (k : Bool) (c : CE) (e : PySem.Expr) : Bool := match c with
  | .var i => match e with
    | .Name x _ => decide (N[i]? = some x) && visB sc x && dbgB x
    | _ => false
  | .non => match e with
    | .Constant .none _ _ => true
    | _ => false
  | .bl b => match e with
    | .Constant (.bool d) _ _ => decide (b = d)
    | _ => false
  | .int i => match e with
    | .Constant (.int j) _ _ => decide (i = j)
    | _ => false
  | .str s => match e with
    | .Constant (.str z) _ _ => decide (s = z)
    | _ => false
  | .glob j => match e with
    | .Name x _ => (match T.cst[j]? with
      | some (y, _) => decide (x = y)
      | none => false) && glB sc x && dbgB x
    | _ => false
  | .fn f => match e with
    | .Name x _ => decide (T.fnm[f]? = some x) && glB sc x && dbgB x
    | _ => false
  | .bty n => match e with
    | .Name x _ => btys.any (fun p => decide (p = (x, n))) && T.free.any (fun y => decide (y = x)) && glB sc x && dbgB x
    | _ => false
  | .neg a => match e with
    | .UnaryOp .USub x _ => !k && chkE sc false a x
    | _ => false
  | .notE a => match e with
    | .UnaryOp .Not x _ => chkE sc k a x
    | _ => false
  | .bin op a b => match e with
    | .BinOp x op' y _ => decide (op = op') && chkE sc false a x && chkE sc false b y
    | _ => false
  | .cmp op a b => match e with
    | .Compare x [op'] [y] _ => decide (op = op') && notSet y && chkE sc false a x && chkE sc false b y
    | _ => false
  | .cmp2 op op2 a b c => match e with
    | .Compare x [o1, o2] [y, z] _ => decide (op = o1) && decide (op2 = o2) && !lastMarks [o1, o2] [y, z] && chkE sc false a x && chkE sc false b y && chkE sc false c z
    | _ => false
  | .andE es => match e with
    | .BoolOp .And xs _ => chkB sc k es xs
    | _ => false
  | .orE es => match e with
    | .BoolOp .Or xs _ => chkB sc k es xs
    | _ => false
  | .ife c a b => match e with
    | .IfExp t x y _ => !k && chkE sc true c t && chkE sc false a x && chkE sc false b y
    | _ => false
  | .tup es => match e with
    | .Tuple xs _ _ => chkEs sc es xs
    | _ => false
  | .lst es => match e with
    | .List xs _ => chkEs sc es xs
    | _ => false
  | .lstR es => match e with
    | .List xs _ => chkEs sc es xs
    | _ => false
  | .idx a i => match e with
    | .Subscript x y _ => notSlice y && chkE sc false a x && chkE sc false i y
    | _ => false
  | .slc a lo hi => match e with
    | .Subscript x (.Slice l h none _) _ => chkE sc false a x && chkO sc lo l && chkO sc hi h
    | _ => false
  | .call f es => match e with
    | .Call (.Name x _) xs [] _ => decide (T.fnm[f]? = some x) && glB sc x && dbgB x && xs.all notStar && chkEs sc es xs
    | _ => false
  | .callV i es => match e with
    | .Call (.Name x _) xs [] _ => decide (N[i]? = some x) && visB sc x && dbgB x && xs.all notStar && chkEs sc es xs
    | _ => false
  | .callB b es => match e with
    | .Call (.Name x _) (a :: xs) [] _ => decide (x = biNm b) && T.free.any (fun y => decide (y = x)) && glB sc x && (a :: xs).all notStar && chkEs sc es (a :: xs)
    | _ => false
  | .meth m o es => match e with
    | .Call (.Attribute ob nm ap) (a :: xs) [] cp => decide (m = .append) && decide (nm = "append") && notCall ob && (a :: xs).all notStar && decide (xs.length < 28) && (ap.endLine == cp.line) && chkE sc false o ob && chkEs sc es (a :: xs)
    | _ => false
  | .frz i => match e with
    | .Name x _ => !k && decide (N[i]? = some x) && visB sc x && dbgB x
    | _ => false
  | .sset a => match e with
    | .Call (.Name x _) [.Call (.Name y _) [z] [] _] [] _ => decide (x = "sorted") && decide (y = "set") && T.free.any (fun y => decide (y = x)) && T.free.any (fun z => decide (z = y)) && glB sc x && glB sc y && notStar z && chkE sc false a z
    | _ => false
  | .comp own tg it cd elt => match e with
    | .ListComp y [⟨tx, ix, fx, 0⟩] scope _ => blkC N sc scope own && chkT N (relS scope sc) (fun x => scope.names.lookup x == some .cell) tg tx && tg.slots.all (fun i => (own.map (·.2)).any fun j => decide (j = i)) && notSet ix && chkI sc it tx ix && chkC (relS scope sc) cd fx && chkE (relS scope sc) false elt y
    | _ => false
def chkO (sc : Scope) (c : Option CE) (e : Option PySem.Expr) : Bool := match c with
  | none => match e with
    | none => true
    | _ => false
  | some c => match e with
    | some e => chkE sc false c e
    | _ => false
def chkC (sc : Scope) (c : Option CE) (e : List PySem.Expr) : Bool := match c with
  | none => match e with
    | [] => true
    | _ => false
  | some c => match e with
    | [e] => chkE sc true c e
    | _ => false
def chkEs (sc : Scope) (cs : CEs) (es : List PySem.Expr) : Bool := match cs with
  | .nil => es.isEmpty
  | .cons c r => match es with
    | e :: es => notStar e && chkE sc false c e && chkEs sc r es
    | [] => false
  | .star c r => match es with
    | .Starred e _ :: es => chkE sc false c e && chkEs sc r es
    | _ => false
def chkB (sc : Scope) (k : Bool) (cs : CEs) (es : List PySem.Expr) : Bool := match cs with
  | .nil => false
  | .cons c .nil => match es with
    | [e] => chkE sc k c e
    | _ => false
  | .cons c r => match es with
    | e :: e2 :: es => chkE sc k c e && chkB sc k r (e2 :: es)
    | _ => false
  | .star _ _ => false
def chkI (sc : Scope) (c : CI) (tg : PySem.Expr) (e : PySem.Expr) : Bool := match c with
  | .seq c => chkE sc false c e
  | .rng1 a => match e with
    | .Call (.Name x _) [y] [] _ => decide (x = "range") && T.free.any (fun y => decide (y = x)) && glB sc x && notStar y && chkE sc false a y
    | _ => false
  | .rng2 a b => match e with
    | .Call (.Name x _) [y, z] [] _ => decide (x = "range") && T.free.any (fun y => decide (y = x)) && glB sc x && notStar y && notStar z && chkE sc false a y && chkE sc false b z
    | _ => false
  | .rng3 a b c => match e with
    | .Call (.Name x _) [y, z, u] [] _ => decide (x = "range") && T.free.any (fun y => decide (y = x)) && glB sc x && notStar y && notStar z && notStar u && chkE sc false a y && chkE sc false b z && chkE sc false c u
    | _ => false
  | .enum a => match e with
    | .Call (.Name x _) [y] [] _ => isTup tg && decide (x = "enumerate") && T.free.any (fun y => decide (y = x)) && glB sc x && notStar y && chkE sc false a y
    | _ => false
  | .zip a b => match e with
    | .Call (.Name x _) [y, z] [] _ => isTup tg && decide (x = "zip") && T.free.any (fun y => decide (y = x)) && glB sc x && notStar y && notStar z && chkE sc false a y && chkE sc false b z
    | _ => false
end
end
end DI
set_option maxHeartbeats 4000000
/-! # DI: what the test says of expressions -/
namespace DI
open PySem PySem.Spec L2

theorem and3 {a b c : Bool} (h : (a && b && c) = true) : a = true ∧ b = true ∧ c = true := by
  simp only [Bool.and_eq_true] at h; exact ⟨h.1.1, h.1.2, h.2⟩
section
variable {T : Tab} {G : Gd} {Γ : Fns} {N : List Str} {sc : Scope} {fb : Str → Bool} {X : Cx}
theorem Good.gl (g : Good G Γ N sc fb X) {x : Str} (h : glB sc x = true) : Gl X x := by
  show X.env.scope.names.lookup x = _
  rw [g.hs]
  exact of_decide_eq_true h
theorem Good.vis (g : Good G Γ N sc fb X) {x : Str} (h : visB sc x = true) : Vis X.env.scope x := by
  rw [g.hs]
  exact vis_of h
theorem Good.free (g : Good G Γ N sc fb X) (tok : TabOk T G) {x : Str} (h : T.free.any (fun y => decide (y = x)) = true) : X.mg x = none := by
  obtain ⟨y, hy, e⟩ := List.any_eq_true.mp h
  have e := of_decide_eq_true e
  subst e
  rw [g.hmg]
  exact tok.free y hy
theorem Good.ix (g : Good G Γ N sc fb X) {i : Nat} {x : Str} (h : decide (N[i]? = some x) = true) : X.N[i]? = some x := by
  rw [g.hN]
  exact of_decide_eq_true h
theorem Good.blk (g : Good G Γ N sc fb X) {s : Shared} {H : Hp} {scope : Scope} {cl : List (Str × Addr)} {C : Addr} {fp : List Addr} :
    Good G Γ N (relS scope sc) (fun x => scope.names.lookup x == some .cell) (X.blk s H scope (compEnvC scope cl C X.env) fp) :=
  ⟨g.hK, g.hmg, g.hN, g.nd, by show relS scope X.env.scope = _; rw [g.hs], g.calm, g.gds, g.un, fun x h => h, g.fns⟩
theorem Good.blkOk (g : Good G Γ N sc fb X) {scope : Scope} {own : List (Str × Nat)} (h : blkC N sc scope own = true) : BlkOk X.N X.env.scope scope own := by
  rw [g.hN, g.hs]
  exact blkOk_by h
mutual
theorem chkT_ok : ∀ (t : CT) (e : PySem.Expr), chkT N sc fb t e = true → Good G Γ N sc fb X → PG X e (LG G t)
  | .name i, e, h, g => by
    unfold chkT at h
    split at h
    · rename_i x p
      simp only [Bool.and_eq_true, Bool.or_eq_true] at h
      obtain ⟨⟨h1, h2⟩, h3⟩ := h
      refine sg_name (g.hN ▸ g.nd) (g.ix h1) (by rw [g.hs]; exact loc_of h2) ?_
      rcases h3 with h3 | h3
      · exact .inl (g.st x h3)
      · exact .inr (by rw [g.hs]; exact of_decide_eq_true h3)
    · cases h
  | .tup ts, e, h, g => by
    unfold chkT at h
    split at h
    · rename_i es k p
      simp only [Bool.and_eq_true, decide_eq_true_eq] at h
      obtain ⟨⟨h1, h2⟩, h3⟩ := h
      exact sg_tup g.hK g.calm h2 h1 (chkTs_ok ts es h3 g)
    · cases h
theorem chkTs_ok : ∀ (ts : List CT) (es : List PySem.Expr), chkTs N sc fb ts es = true → Good G Γ N sc fb X → PGs X es (LGs G ts)
  | [], es, h, g => by
    unfold chkTs at h
    have e : es = [] := by simpa using h
    subst e
    exact sg_nil
  | t :: ts, es, h, g => by
    unfold chkTs at h
    split at h
    · rename_i e es
      simp only [Bool.and_eq_true] at h
      exact sg_cons h.1.1 (chkT_ok t e h.1.2 g) (chkTs_ok ts es h.2 g)
    · cases h
end
theorem ev_ife {T : Tab} {Γ : Fns} {c a b : CE} : (fun sp M => (evTr (ev T Γ c sp M)).bind fun k M1 => if k = true then ev T Γ a sp M1 else ev T Γ b sp M1) = ev T Γ (.ife c a b) := by
  funext sp M
  simp only [ev, evTr]
  cases ev T Γ c sp M with
  | ok p M1 =>
    cases p with
    | bl k => cases k <;> rfl
    | _ => rfl
  | exc x M1 => rfl
  | bad => rfl
theorem ev_callV {T : Tab} {Γ : Fns} {i : Nat} {es : CEs} : (fun sp M => (ev T Γ (.var i) sp M).bind fun v M0 => match v with | .fn f => (evs T Γ es sp M0).bind fun ps M1 => Γ f ps M1 | _ => .bad) = ev T Γ (.callV i es) := by
  funext sp M
  simp only [ev]
  cases sp[i]? with
  | none => rfl
  | some o =>
    cases o with
    | none => rfl
    | some p => cases p <;> rfl
theorem evAnd1 {T : Tab} {Γ : Fns} {e : CE} : evAnd T Γ (.cons e .nil) = ev T Γ e := by
  funext sp M; simp only [evAnd]
theorem evOr1 {T : Tab} {Γ : Fns} {e : CE} : evOr T Γ (.cons e .nil) = ev T Γ e := by
  funext sp M; simp only [evOr]
theorem evs0 {T : Tab} {Γ : Fns} {es : CEs} {sc : Scope} (h : chkEs T N sc es [] = true) : ∀ sp M, evs T Γ es sp M = .ok [] M := by
  cases es with
  | nil => intro sp M; simp only [evs]
  | cons c r => unfold chkEs at h; cases h
  | star c r => unfold chkEs at h; cases h
end
end DI
set_option maxHeartbeats 8000000
/-! # DI: expressions are sound -/
namespace DI
open PySem PySem.Spec L2

/-- code and syntax agree wherever the names stand -/
def OkE (T : Tab) (G : Gd) (Γ : Fns) (N : List Str) (sc : Scope) (k : Bool) (c : CE) (e : PySem.Expr) : Prop :=
  ∀ (fb : Str → Bool) (X : Cx) (W : WX), Good G Γ N sc fb X → Takes X W → PE X e (LE G W (ev T Γ c)) ∧ (k = true → PT X e (LT G W fun sp M => evTr (ev T Γ c sp M)))
section
variable {T : Tab} {G : Gd} {Γ : Fns} {N : List Str}
/-- a value that is no and, or, not, if-else, comparison: a test too -/
theorem okV {sc : Scope} {k : Bool} {c : CE} {e : PySem.Expr} (hp : plainT e = true) (h : ∀ (fb : Str → Bool) (X : Cx) (W : WX), Good G Γ N sc fb X → Takes X W → PE X e (LE G W (ev T Γ c))) : OkE T G Γ N sc k c e :=
  fun fb X W g tk => ⟨h fb X W g tk, fun _ => st_val hp (h fb X W g tk)⟩
theorem okN {sc : Scope} {c : CE} {e : PySem.Expr} (h : ∀ (fb : Str → Bool) (X : Cx) (W : WX), Good G Γ N sc fb X → Takes X W → PE X e (LE G W (ev T Γ c))) : OkE T G Γ N sc false c e :=
  fun fb X W g tk => ⟨h fb X W g tk, fun z => nomatch z⟩
theorem kfalse {k b : Bool} (h : (!k && b) = true) : k = false ∧ b = true := by
  rw [Bool.and_eq_true] at h
  exact ⟨by simpa using h.1, h.2⟩
mutual
theorem chkE_ok (tok : TabOk T G) : ∀ (c : CE) (sc : Scope) (k : Bool) (e : PySem.Expr), chkE T N sc k c e = true → OkE T G Γ N sc k c e
  | .var i, sc, k, e, h => by
    unfold chkE at h
    split at h
    · obtain ⟨h1, h2, h3⟩ := and3 h
      exact okV rfl fun fb X W g tk => se_var (g.ix h1) (g.vis h2) h3
    · cases h
  | .non, sc, k, e, h => by
    unfold chkE at h
    split at h
    · exact okV rfl fun fb X W g tk => se_const pe_non (fun _ _ _ _ => .non) fun sp M => by simp only [ev]
    · cases h
  | .bl b, sc, k, e, h => by
    unfold chkE at h
    split at h
    · have h := of_decide_eq_true h
      subst h
      exact okV rfl fun fb X W g tk => se_const pe_bl (fun _ _ _ _ => .bl _) fun sp M => by simp only [ev]
    · cases h
  | .int i, sc, k, e, h => by
    unfold chkE at h
    split at h
    · have h := of_decide_eq_true h
      subst h
      exact okV rfl fun fb X W g tk => se_const pe_int (fun _ _ _ _ => .int _) fun sp M => by simp only [ev]
    · cases h
  | .str s, sc, k, e, h => by
    unfold chkE at h
    split at h
    · have h := of_decide_eq_true h
      subst h
      exact okV rfl fun fb X W g tk => se_const pe_str (fun _ _ _ _ => .str _) fun sp M => by simp only [ev]
    · cases h
  | .glob j, sc, k, e, h => by
    unfold chkE at h
    split at h
    · rename_i x p
      obtain ⟨h1, h2, h3⟩ := and3 h
      split at h1
      · rename_i y q hy
        have h1 := of_decide_eq_true h1
        subst h1
        obtain ⟨u, v, k1, k2, k3⟩ := tok.cst _ _ _ hy
        exact okV rfl fun fb X W g tk => se_globV (g.gl h2) (by rw [g.hmg]; exact k1) k2 h3 k3 fun sp M => by simp only [ev, hy]
      · cases h1
    · cases h
  | .fn f, sc, k, e, h => by
    unfold chkE at h
    split at h
    · obtain ⟨h1, h2, h3⟩ := and3 h
      obtain ⟨k1, a, k2⟩ := tok.fnm _ _ (of_decide_eq_true h1)
      exact okV rfl fun fb X W g tk => se_globV (v := .ref a) (g.gl h2) (by rw [g.hmg]; exact k2) rfl h3 (fun ι H O => .fn k1 k2) fun sp M => by simp only [ev]
    · cases h
  | .bty n, sc, k, e, h => by
    unfold chkE at h
    split at h
    · rename_i x p
      simp only [Bool.and_eq_true] at h
      obtain ⟨⟨⟨h1, h2⟩, h3⟩, h4⟩ := h
      obtain ⟨q, hq, eq⟩ := List.any_eq_true.mp h1
      have eq := of_decide_eq_true eq
      subst eq
      obtain ⟨b1, b2⟩ := btys_boot _ hq
      exact okV rfl fun fb X W g tk => se_bty (g.gl h3) (g.free tok h2) b1 b2 h4
    · cases h
  | .neg a, sc, k, e, h => by
    unfold chkE at h
    split at h
    · obtain ⟨rfl, h⟩ := kfalse h
      refine okN fun fb X W g tk => ?_
      simp only [ev]
      exact se_neg (chkE_ok tok a sc false _ h fb X W g tk).1
    · cases h
  | .notE a, sc, k, e, h => by
    unfold chkE at h
    split at h
    · intro fb X W g tk
      have ih := chkE_ok tok a sc k _ h fb X W g tk
      simp only [ev]
      exact ⟨se_not ih.1, fun hk => st_not (ih.2 hk)⟩
    · cases h
  | .bin op a b, sc, k, e, h => by
    unfold chkE at h
    split at h
    · obtain ⟨h1, h2, h3⟩ := and3 h
      have h1 := of_decide_eq_true h1
      subst h1
      refine okV rfl fun fb X W g tk => ?_
      simp only [ev]
      exact se_bin g.hK (chkE_ok tok a sc false _ h2 fb X W g tk).1 (chkE_ok tok b sc false _ h3 fb X W g tk).1
    · cases h
  | .cmp op a b, sc, k, e, h => by
    unfold chkE at h
    split at h
    · simp only [Bool.and_eq_true] at h
      obtain ⟨⟨⟨h1, h2⟩, h3⟩, h4⟩ := h
      have h1 := of_decide_eq_true h1
      subst h1
      intro fb X W g tk
      have ia := (chkE_ok tok a sc false _ h3 fb X W g tk).1
      have ib := (chkE_ok tok b sc false _ h4 fb X W g tk).1
      simp only [ev]
      exact ⟨se_cmp g.hK g.un h2 ia ib, fun _ => st_cmp g.hK g.un h2 ia ib⟩
    · cases h
  | .cmp2 op op2 a b c, sc, k, e, h => by
    unfold chkE at h
    split at h
    · simp only [Bool.and_eq_true] at h
      obtain ⟨⟨⟨⟨⟨h1, h2⟩, h3⟩, h4⟩, h5⟩, h6⟩ := h
      have h1 := of_decide_eq_true h1
      have h2 := of_decide_eq_true h2
      subst h1 h2
      intro fb X W g tk
      have ia := (chkE_ok tok a sc false _ h4 fb X W g tk).1
      have ib := (chkE_ok tok b sc false _ h5 fb X W g tk).1
      have ic := (chkE_ok tok c sc false _ h6 fb X W g tk).1
      have hl := Bool.not_eq_true' _ |>.mp h3
      simp only [ev]
      exact ⟨se_cmp2 g.hK g.un ia ib ic hl, fun _ => st_cmp2 g.hK g.un ia ib ic hl⟩
    · cases h
  | .andE es, sc, k, e, h => by
    unfold chkE at h
    split at h
    · intro fb X W g tk
      have ih := chkB_ok tok es sc k _ h fb X W g tk
      simp only [ev]
      exact ⟨(ih _).1.1, fun hk => ((ih _).1.2 hk).pt⟩
    · cases h
  | .orE es, sc, k, e, h => by
    unfold chkE at h
    split at h
    · intro fb X W g tk
      have ih := chkB_ok tok es sc k _ h fb X W g tk
      simp only [ev]
      exact ⟨(ih _).2.1, fun hk => ((ih _).2.2 hk).pt⟩
    · cases h
  | .ife c a b, sc, k, e, h => by
    unfold chkE at h
    split at h
    · simp only [Bool.and_eq_true] at h
      obtain ⟨⟨⟨h1, h2⟩, h3⟩, h4⟩ := h
      have h1 : k = false := by simpa using h1
      subst h1
      refine okN fun fb X W g tk => ?_
      rw [← ev_ife]
      exact se_ife ((chkE_ok tok c sc true _ h2 fb X W g tk).2 rfl) (chkE_ok tok a sc false _ h3 fb X W g tk).1 (chkE_ok tok b sc false _ h4 fb X W g tk).1
    · cases h
  | .tup es, sc, k, e, h => by
    unfold chkE at h
    split at h
    · refine okV rfl fun fb X W g tk => ?_
      simp only [ev]
      exact se_tup (chkEs_ok tok es sc _ h fb X W g tk)
    · cases h
  | .lst es, sc, k, e, h => by
    unfold chkE at h
    split at h
    · refine okV rfl fun fb X W g tk => ?_
      simp only [ev]
      exact se_lst (chkEs_ok tok es sc _ h fb X W g tk)
    · cases h
  | .lstR es, sc, k, e, h => by
    unfold chkE at h
    split at h
    · refine okV rfl fun fb X W g tk => ?_
      simp only [ev]
      exact se_lstR (chkEs_ok tok es sc _ h fb X W g tk)
    · cases h
  | .idx a i, sc, k, e, h => by
    unfold chkE at h
    split at h
    · obtain ⟨h1, h2, h3⟩ := and3 h
      refine okV rfl fun fb X W g tk => ?_
      simp only [ev]
      exact se_idx g.hK h1 (chkE_ok tok a sc false _ h2 fb X W g tk).1 (chkE_ok tok i sc false _ h3 fb X W g tk).1
    · cases h
  | .slc a lo hi, sc, k, e, h => by
    unfold chkE at h
    split at h
    · obtain ⟨h1, h2, h3⟩ := and3 h
      refine okV rfl fun fb X W g tk => ?_
      simp only [ev]
      exact se_slc g.hK (chkE_ok tok a sc false _ h1 fb X W g tk).1 (chkO_ok tok lo sc _ h2 fb X W g tk) (chkO_ok tok hi sc _ h3 fb X W g tk)
    · cases h
  | .call f es, sc, k, e, h => by
    unfold chkE at h
    split at h
    · simp only [Bool.and_eq_true] at h
      obtain ⟨⟨⟨⟨h1, h2⟩, h3⟩, h4⟩, h5⟩ := h
      obtain ⟨k1, a, k2⟩ := tok.fnm _ _ (of_decide_eq_true h1)
      refine okV rfl fun fb X W g tk => ?_
      have hx : ∀ q : Pos, PE X (.Name _ q) (LE G W (ev T Γ (.fn f))) := fun q => se_globV (v := .ref a) (g.gl h2) (by rw [g.hmg]; exact k2) rfl h3 (fun ι H O => .fn k1 k2) fun sp M => by simp only [ev]
      obtain ⟨kk, hr, hf⟩ := g.fns
      refine (se_callAny hr tk hf (hx _) (chkEs_ok tok es sc _ h5 fb X W g tk) h4 (fun e0 => by subst e0; exact evs0 h5)).w fun σ H Q hh => ?_
      simp only [ev] at hh ⊢
      exact hh
    · cases h
  | .callV i es, sc, k, e, h => by
    unfold chkE at h
    split at h
    · simp only [Bool.and_eq_true] at h
      obtain ⟨⟨⟨⟨h1, h2⟩, h3⟩, h4⟩, h5⟩ := h
      refine okV rfl fun fb X W g tk => ?_
      have hx : ∀ q : Pos, PE X (.Name _ q) (LE G W (ev T Γ (.var i))) := fun q => se_var (g.ix h1) (g.vis h2) h3
      obtain ⟨kk, hr, hf⟩ := g.fns
      rw [← ev_callV]
      exact se_callAny hr tk hf (hx _) (chkEs_ok tok es sc _ h5 fb X W g tk) h4 (fun e0 => by subst e0; exact evs0 h5)
    · cases h
  | .callB b es, sc, k, e, h => by
    unfold chkE at h
    split at h
    · simp only [Bool.and_eq_true] at h
      obtain ⟨⟨⟨⟨h1, h2⟩, h3⟩, h4⟩, h5⟩ := h
      have h1 := of_decide_eq_true h1
      subst h1
      refine okV rfl fun fb X W g tk => ?_
      simp only [ev]
      exact se_callB (pr_bi g.hK g.calm g.gds g.un b) (g.gl h3) (g.free tok h2) h4 (chkEs_ok tok es sc _ h5 fb X W g tk)
    · cases h
  | .meth m o es, sc, k, e, h => by
    unfold chkE at h
    split at h
    · simp only [Bool.and_eq_true] at h
      obtain ⟨⟨⟨⟨⟨⟨⟨h1, h2⟩, h3⟩, h4⟩, h5⟩, h6⟩, h7⟩, h8⟩ := h
      have h1 := of_decide_eq_true h1
      have h2 := of_decide_eq_true h2
      subst h1 h2
      refine okV rfl fun fb X W g tk => ?_
      simp only [ev]
      exact se_append h3 h4 (of_decide_eq_true h5) h6 (chkE_ok tok o sc false _ h7 fb X W g tk).1 (chkEs_ok tok es sc _ h8 fb X W g tk)
    · cases h
  | .frz i, sc, k, e, h => by
    unfold chkE at h
    split at h
    · simp only [Bool.and_eq_true] at h
      obtain ⟨⟨⟨h1, h2⟩, h3⟩, h4⟩ := h
      have h1 : k = false := by simpa using h1
      subst h1
      exact okN fun fb X W g tk => se_frz (g.ix h2) (g.vis h3) h4
    · cases h
  | .sset a, sc, k, e, h => by
    unfold chkE at h
    split at h
    · simp only [Bool.and_eq_true] at h
      obtain ⟨⟨⟨⟨⟨⟨⟨h1, h2⟩, h3⟩, h4⟩, h5⟩, h6⟩, h7⟩, h8⟩ := h
      have h1 := of_decide_eq_true h1
      have h2 := of_decide_eq_true h2
      subst h1 h2
      refine okV rfl fun fb X W g tk => ?_
      simp only [ev]
      exact se_sset g.hK g.calm g.un (g.gl h5) (g.free tok h3) (g.gl h6) (g.free tok h4) h7 (chkE_ok tok a sc false _ h8 fb X W g tk).1
    · cases h
  | .comp own tg it cd elt, sc, k, e, h => by
    unfold chkE at h
    split at h
    · simp only [Bool.and_eq_true] at h
      obtain ⟨⟨⟨⟨⟨⟨h1, h2⟩, h3⟩, h4⟩, h5⟩, h6⟩, h7⟩ := h
      refine okV rfl fun fb X W g tk => ?_
      simp only [ev]
      refine se_comp (cc := evC T Γ cd) (ce := ev T Γ elt) (t := tg) g.calm (g.hN ▸ g.nd) (chkI_ok tok it sc _ _ h5 fb X W g tk) (g.blkOk h1) (fun s H C cl fp => chkT_ok tg _ h2 g.blk) (fun s H C cl fp => ?_) (fun s H C cl fp => (chkE_ok tok elt _ false _ h7 _ _ W0 g.blk takes0).1) (folded_of h4) fun i hi => ?_
      · exact chkC_ok tok cd _ _ h6 _ _ g.blk
      · have q := List.all_eq_true.mp h3 i hi
        obtain ⟨j, hj, ej⟩ := List.any_eq_true.mp q
        exact (of_decide_eq_true ej) ▸ hj
    · cases h
theorem chkO_ok (tok : TabOk T G) : ∀ (c : Option CE) (sc : Scope) (e : Option PySem.Expr), chkO T N sc c e = true → ∀ (fb : Str → Bool) (X : Cx) (W : WX), Good G Γ N sc fb X → Takes X W → PO X e (LO G W (evO T Γ c))
  | none, sc, e, h, fb, X, W, g, tk => by
    unfold chkO at h
    split at h
    · simp only [evO]
      exact so_none
    · cases h
  | some c, sc, e, h, fb, X, W, g, tk => by
    unfold chkO at h
    split at h
    · simp only [evO]
      exact so_some (chkE_ok tok c sc false _ h fb X W g tk).1
    · cases h
theorem chkC_ok (tok : TabOk T G) : ∀ (c : Option CE) (sc : Scope) (e : List PySem.Expr), chkC T N sc c e = true → ∀ (fb : Str → Bool) (X : Cx), Good G Γ N sc fb X → PTs X e (tLockT (LT G W0 (evC T Γ c)))
  | none, sc, e, h, fb, X, g => by
    unfold chkC at h
    split at h
    · have e0 : evC T Γ none = fun _ M => .ok true M := by funext sp M; simp only [evC]
      rw [e0]
      exact sts_nil
    · cases h
  | some c, sc, e, h, fb, X, g => by
    unfold chkC at h
    split at h
    · have e0 : evC T Γ (some c) = fun sp M => evTr (ev T Γ c sp M) := by funext sp M; simp only [evC]; rfl
      rw [e0]
      exact sts_one ((chkE_ok tok c sc true _ h fb X W0 g takes0).2 rfl)
    · cases h
theorem chkEs_ok (tok : TabOk T G) : ∀ (cs : CEs) (sc : Scope) (es : List PySem.Expr), chkEs T N sc cs es = true → ∀ (fb : Str → Bool) (X : Cx) (W : WX), Good G Γ N sc fb X → Takes X W → PA X es (LA G W (evs T Γ cs))
  | .nil, sc, es, h, fb, X, W, g, tk => by
    unfold chkEs at h
    have e : es = [] := by simpa using h
    subst e
    simp only [evs]
    exact sa_nil
  | .cons c r, sc, es, h, fb, X, W, g, tk => by
    unfold chkEs at h
    split at h
    · obtain ⟨h1, h2, h3⟩ := and3 h
      simp only [evs]
      exact sa_cons h1 (chkE_ok tok c sc false _ h2 fb X W g tk).1 (chkEs_ok tok r sc _ h3 fb X W g tk)
    · cases h
  | .star c r, sc, es, h, fb, X, W, g, tk => by
    unfold chkEs at h
    split at h
    · rw [Bool.and_eq_true] at h
      simp only [evs]
      exact sa_star g.hK (chkE_ok tok c sc false _ h.1 fb X W g tk).1 (chkEs_ok tok r sc _ h.2 fb X W g tk)
    · cases h
theorem chkB_ok (tok : TabOk T G) : ∀ (cs : CEs) (sc : Scope) (k : Bool) (es : List PySem.Expr), chkB T N sc k cs es = true → ∀ (fb : Str → Bool) (X : Cx) (W : WX), Good G Γ N sc fb X → Takes X W → ∀ pos : Pos,
    ((PE X (.BoolOp .And es pos) (LE G W (evAnd T Γ cs)) ∧ (k = true → PW X (.BoolOp .And es pos) (LT G W fun sp M => evTr (evAnd T Γ cs sp M)))) ∧
     (PE X (.BoolOp .Or es pos) (LE G W (evOr T Γ cs)) ∧ (k = true → PW X (.BoolOp .Or es pos) (LT G W fun sp M => evTr (evOr T Γ cs sp M)))))
  | .nil, sc, k, es, h, fb, X, W, g, tk, pos => by unfold chkB at h; cases h
  | .star _ _, sc, k, es, h, fb, X, W, g, tk, pos => by unfold chkB at h; cases h
  | .cons c .nil, sc, k, es, h, fb, X, W, g, tk, pos => by
    unfold chkB at h
    split at h
    · have ih := chkE_ok tok c sc k _ h fb X W g tk
      rw [evAnd1, evOr1]
      exact ⟨⟨pe_one ih.1, fun hk => pw_and1 (ih.2 hk)⟩, pe_one ih.1, fun hk => pw_or1 (ih.2 hk)⟩
    · cases h
  | .cons c (.cons c2 r), sc, k, es, h, fb, X, W, g, tk, pos => by
    unfold chkB at h
    split at h
    · rw [Bool.and_eq_true] at h
      have ia := chkE_ok tok c sc k _ h.1 fb X W g tk
      have ir := chkB_ok tok (.cons c2 r) sc k _ h.2 fb X W g tk pos
      have e1 : evAnd T Γ (.cons c (.cons c2 r)) = fun sp M => (ev T Γ c sp M).bind (andK (evAnd T Γ (.cons c2 r) sp)) := by funext sp M; simp only [evAnd]
      have e2 : evOr T Γ (.cons c (.cons c2 r)) = fun sp M => (ev T Γ c sp M).bind (orK (evOr T Γ (.cons c2 r) sp)) := by funext sp M; simp only [evOr]
      rw [e1, e2]
      exact ⟨⟨se_and ia.1 ir.1.1, fun hk => st_and (ia.2 hk) (ir.1.2 hk)⟩, se_or ia.1 ir.2.1, fun hk => st_or (ia.2 hk) (ir.2.2 hk)⟩
    · cases h
  | .cons c (.star c2 r), sc, k, es, h, fb, X, W, g, tk, pos => by
    unfold chkB at h
    split at h
    · rw [Bool.and_eq_true] at h
      have h2 := h.2
      unfold chkB at h2
      cases h2
    · cases h
theorem chkI_ok (tok : TabOk T G) : ∀ (c : CI) (sc : Scope) (tg e : PySem.Expr), chkI T N sc c tg e = true → ∀ (fb : Str → Bool) (X : Cx) (W : WX), Good G Γ N sc fb X → Takes X W → PI X tg e (LI G W (evI T Γ c))
  | .seq c, sc, tg, e, h, fb, X, W, g, tk => by
    unfold chkI at h
    simp only [evI]
    exact si_seq g.hK (chkE_ok tok c sc false _ h fb X W g tk).1
  | .rng1 a, sc, tg, e, h, fb, X, W, g, tk => by
    unfold chkI at h
    split at h
    · simp only [Bool.and_eq_true] at h
      obtain ⟨⟨⟨⟨h1, h2⟩, h3⟩, h4⟩, h5⟩ := h
      have h1 := of_decide_eq_true h1
      subst h1
      simp only [evI]
      exact si_rng1 (g.gl h3) (g.free tok h2) h4 (chkE_ok tok a sc false _ h5 fb X W g tk).1
    · cases h
  | .rng2 a b, sc, tg, e, h, fb, X, W, g, tk => by
    unfold chkI at h
    split at h
    · simp only [Bool.and_eq_true] at h
      obtain ⟨⟨⟨⟨⟨⟨h1, h2⟩, h3⟩, h4⟩, h5⟩, h6⟩, h7⟩ := h
      have h1 := of_decide_eq_true h1
      subst h1
      simp only [evI]
      exact si_rng2 (g.gl h3) (g.free tok h2) h4 h5 (chkE_ok tok a sc false _ h6 fb X W g tk).1 (chkE_ok tok b sc false _ h7 fb X W g tk).1
    · cases h
  | .rng3 a b c, sc, tg, e, h, fb, X, W, g, tk => by
    unfold chkI at h
    split at h
    · simp only [Bool.and_eq_true] at h
      obtain ⟨⟨⟨⟨⟨⟨⟨⟨h1, h2⟩, h3⟩, h4⟩, h5⟩, h6⟩, h7⟩, h8⟩, h9⟩ := h
      have h1 := of_decide_eq_true h1
      subst h1
      simp only [evI]
      exact si_rng3 (g.gl h3) (g.free tok h2) h4 h5 h6 (chkE_ok tok a sc false _ h7 fb X W g tk).1 (chkE_ok tok b sc false _ h8 fb X W g tk).1 (chkE_ok tok c sc false _ h9 fb X W g tk).1
    · cases h
  | .enum a, sc, tg, e, h, fb, X, W, g, tk => by
    unfold chkI at h
    split at h
    · simp only [Bool.and_eq_true] at h
      obtain ⟨⟨⟨⟨⟨h0, h1⟩, h2⟩, h3⟩, h4⟩, h5⟩ := h
      have h1 := of_decide_eq_true h1
      subst h1
      simp only [evI]
      cases tg <;> first
        | (exfalso; exact Bool.false_ne_true h0)
        | (exact si_enum g.hK (g.gl h3) (g.free tok h2) h4 (chkE_ok tok a sc false _ h5 fb X W g tk).1)
    · cases h
  | .zip a b, sc, tg, e, h, fb, X, W, g, tk => by
    unfold chkI at h
    split at h
    · simp only [Bool.and_eq_true] at h
      obtain ⟨⟨⟨⟨⟨⟨⟨h0, h1⟩, h2⟩, h3⟩, h4⟩, h5⟩, h6⟩, h7⟩ := h
      have h1 := of_decide_eq_true h1
      subst h1
      simp only [evI]
      cases tg <;> first
        | (exfalso; exact Bool.false_ne_true h0)
        | (exact si_zip g.hK (g.gl h3) (g.free tok h2) h4 h5 (chkE_ok tok a sc false _ h6 fb X W g tk).1 (chkE_ok tok b sc false _ h7 fb X W g tk).1)
    · cases h
end
end
end DI
set_option maxHeartbeats 4000000
/-! # DI: statements, rule by rule -/
namespace DI
open PySem PySem.Spec L2

section
variable {G : Gd} {W : WX} {σ : St} {sp : Sl} {M : Store} {ι : List Addr} {H : Hp} {D : Ends}
theorem PostS.ofE {Q : VK} {r : Res PV} {k : PV → Store → SRes} (h : PostS G W D M ι H (.ofR r sp k)) (s : SRep G M ι H sp σ)
    (hq : ∀ p M1 ι1 H1 v, MRel G M1 ι1 H1 → Ext M ι H M1 ι1 H1 → Rp G ι1 H1 (Own M1 ι1) p v → PostS G W D M1 ι1 H1 (k p M1) → Q v H1) : PostE G W σ M ι H Q r := by
  cases r with
  | ok p M1 => exact fun ι1 H1 v a b c => hq p M1 ι1 H1 v a b c (PostS.from (r := k p M1) h b)
  | exc x M1 => exact fun ι' H' cv d a b c => h ι' H' σ cv d a b (s.ext b) c
  | bad => exact h
theorem PostS.ofA {Q : List V → Hp → Prop} {r : Res (List PV)} {k : List PV → Store → SRes} (h : PostS G W D M ι H (.ofR r sp k)) (s : SRep G M ι H sp σ)
    (hq : ∀ p M1 ι1 H1 v, MRel G M1 ι1 H1 → Ext M ι H M1 ι1 H1 → Rps G ι1 H1 (Own M1 ι1) p v → PostS G W D M1 ι1 H1 (k p M1) → Q v H1) : PostA G W σ M ι H Q r := by
  cases r with
  | ok p M1 => exact fun ι1 H1 v a b c => hq p M1 ι1 H1 v a b c (PostS.from (r := k p M1) h b)
  | exc x M1 => exact fun ι' H' cv d a b c => h ι' H' σ cv d a b (s.ext b) c
  | bad => exact h
theorem PostS.ofT {Q : Bool → Hp → Prop} {r : Res Bool} {k : Bool → Store → SRes} (h : PostS G W D M ι H (.ofR r sp k)) (s : SRep G M ι H sp σ)
    (hq : ∀ p M1 ι1 H1, MRel G M1 ι1 H1 → Ext M ι H M1 ι1 H1 → PostS G W D M1 ι1 H1 (k p M1) → Q p H1) : PostT G W σ M ι H Q r := by
  cases r with
  | ok p M1 => exact fun ι1 H1 a b => hq p M1 ι1 H1 a b (PostS.from (r := k p M1) h b)
  | exc x M1 => exact fun ι' H' cv d a b c => h ι' H' σ cv d a b (s.ext b) c
  | bad => exact h
theorem PostS.ofI {R : It → Hp → Prop} {r : Res ItV} {k : ItV → Store → SRes} (h : PostS G W D M ι H (.ofR r sp k)) (s : SRep G M ι H sp σ)
    (hq : ∀ V M1 ι1 H1 J, MRel G M1 ι1 H1 → Ext M ι H M1 ι1 H1 → ItRep G V M1 ι1 H1 J → PostS G W D M1 ι1 H1 (k V M1) → R J H1) : PostI G W σ M ι H R r := by
  cases r with
  | ok p M1 => exact fun ι1 H1 v a b c => hq p M1 ι1 H1 v a b c (PostS.from (r := k p M1) h b)
  | exc x M1 => exact fun ι' H' cv d a b c => h ι' H' σ cv d a b (s.ext b) c
  | bad => exact h
end
section
variable {T : Tab} {G : Gd} {Γ : Fns} {W : WX} {X : Cx} {pos : Pos} {e : PySem.Expr} {ce cc : Ev PV} {ca cb : Ex}
/-! ### assignments -/
theorem asg_name {i : Nat} {p : PV} {sp sp' : Sl} (h : asg (.name i) p sp = some sp') : sp' = sp.set i (some p) := by
  simp only [asg] at h
  split at h
  · cases h; rfl
  · cases h
theorem nameW {i : Nat} {D : Ends} {σ : St} {H : Hp} (h : LS G W (fun sp M => .ofR (ce sp M) sp (asgK (.name i) sp)) D σ H) : tAsg (LE G W ce) (gName i) D σ H := by
  obtain ⟨M, ι, sp, m, s, post⟩ := h
  refine ⟨M, ι, sp, m, s, PostS.ofE post s fun p M1 ι1 H1 v m1 e1 r1 post1 => ?_⟩
  unfold asgK at post1
  split at post1
  · rename_i sp' ha
    have ha := asg_name ha
    subst ha
    exact post1 ι1 H1 _ m1 .refl ((s.ext e1).set r1 i)
  · exact post1.elim
theorem ss_set {i : Nat} {x : Str} {px : Pos} (hN : X.N.Nodup) (hi : X.N[i]? = some x) (hx : Loc X.env.scope x) (hf : X.fn x = true ∨ X.env.scope.names.lookup x = some .local) (he : PE X e (LE G W ce)) (hs : swapsWith e (some (.Name x px)) pos.line X.env = pure false) :
    PS X (.Assign [.Name x px] e pos) (LS G W fun sp M => .ofR (ce sp M) sp (asgK (.name i) sp)) :=
  (ps_set hN hi hx he hs hf).w fun D σ H h => nameW h
theorem ss_tup {tg : PySem.Expr} {t : CT} (he : PE X e (LE G W ce)) (hg : PG X tg (LG G t)) (hs : swapsWithSole [tg] e pos.line X.env = pure false) (hw : swappedStores [tg] e X.env = pure none) (h1 : (assignEach [tg] X.env).map (·.2) = [assign tg X.env]) :
    PS X (.Assign [tg] e pos) (LS G W fun sp M => .ofR (ce sp M) sp (asgK t sp)) :=
  (ps_asg he hg hs hw h1).w fun D σ H h => by
    obtain ⟨M, ι, sp, m, s, post⟩ := h
    refine ⟨M, ι, sp, m, s, PostS.ofE post s fun p M1 ι1 H1 v m1 e1 r1 post1 => ?_⟩
    unfold asgK at post1
    split at post1
    · rename_i sp' ha
      exact ⟨M1, ι1, H1, sp, p, Sub.rfl', s.ext e1, r1, sp', ha, fun σ' s' _ => post1 ι1 H1 σ' m1 .refl s'⟩
    · exact post1.elim
theorem asgs2 {i j : Nat} {ps : List PV} {sp sp' : Sl} (h : asgs [.name i, .name j] ps sp = some sp') : ∃ p q, ps = [p, q] ∧ sp' = (sp.set i (some p)).set j (some q) := by
  match ps, h with
  | [], h => simp [asgs] at h
  | [p], h => simp only [asgs, asg] at h; split at h <;> simp at h
  | [p, q], h =>
    simp only [asgs, asg] at h
    split at h
    · rename_i sp1 e1
      split at h
      · rename_i sp2 e2
        cases h
        split at e1
        · cases e1
          split at e2
          · cases e2; exact ⟨p, q, rfl, rfl⟩
          · cases e2
        · cases e1
      · cases h
    · cases h
  | p :: q :: r :: ps, h =>
    simp only [asgs, asg] at h
    split at h
    · split at h
      · simp at h
      · cases h
    · cases h
theorem asgs3 {i j l : Nat} {ps : List PV} {sp sp' : Sl} (h : asgs [.name i, .name j, .name l] ps sp = some sp') : ∃ p q r, ps = [p, q, r] ∧ sp' = ((sp.set i (some p)).set j (some q)).set l (some r) := by
  cases ps with
  | nil => simp [asgs] at h
  | cons p ps =>
    simp only [asgs] at h
    split at h
    · rename_i sp1 e1
      obtain ⟨q, r, rfl, rfl⟩ := asgs2 (by simpa only [asgs] using h)
      rw [asg_name e1]
      exact ⟨p, q, r, rfl, rfl⟩
    · cases h
theorem ss_par2 {i j : Nat} {x y : Str} {a b : PySem.Expr} {car : Ev (List PV)} {px py pt : Pos} {kt k2 pt2} (hc : X.calm = true) (hN : X.N.Nodup) (hi : X.N[i]? = some x) (hj : X.N[j]? = some y) (hij : i ≠ j)
    (hx : X.env.scope.names.lookup x = some .local) (hy : X.env.scope.names.lookup y = some .local) (ha : PA X [a, b] (LA G W car))
    (hw : swappedStores [.Tuple [.Name x px, .Name y py] kt pt] (.Tuple [a, b] k2 pt2) X.env = pure (some [x, y])) :
    PS X (.Assign [.Tuple [.Name x px, .Name y py] kt pt] (.Tuple [a, b] k2 pt2) pos) (LS G W fun sp M => .ofR (car sp M) sp (parK [i, j] sp)) :=
  (ps_par hc hN hi hj hij hx hy ha hw rfl).w fun D σ H h => by
    obtain ⟨M, ι, sp, m, s, post⟩ := h
    refine ⟨M, ι, sp, m, s, PostS.ofA post s fun ps M1 ι1 H1 vs m1 e1 r1 post1 => ?_⟩
    unfold parK at post1
    split at post1
    · rename_i sp' hp
      obtain ⟨p, q, rfl, rfl⟩ := asgs2 hp
      obtain ⟨v, w, rfl, rp, rq⟩ := r1.two
      exact ⟨v, w, rfl, post1 ι1 H1 _ m1 .refl (((s.ext e1).set rp i).set rq j)⟩
    · exact post1.elim
theorem ss_par3 {i j l : Nat} {x y z : Str} {a b c : PySem.Expr} {car : Ev (List PV)} {px py pz pt : Pos} {kt k2 pt2} (hc : X.calm = true) (hN : X.N.Nodup) (hi : X.N[i]? = some x) (hj : X.N[j]? = some y) (hl : X.N[l]? = some z) (hij : i ≠ j) (hil : i ≠ l) (hjl : j ≠ l)
    (hx : X.env.scope.names.lookup x = some .local) (hy : X.env.scope.names.lookup y = some .local) (hz : X.env.scope.names.lookup z = some .local) (ha : PA X [a, b, c] (LA G W car))
    (hw : swappedStores [.Tuple [.Name x px, .Name y py, .Name z pz] kt pt] (.Tuple [a, b, c] k2 pt2) X.env = pure (some [x, y, z])) :
    PS X (.Assign [.Tuple [.Name x px, .Name y py, .Name z pz] kt pt] (.Tuple [a, b, c] k2 pt2) pos) (LS G W fun sp M => .ofR (car sp M) sp (parK [i, j, l] sp)) :=
  (ps_par3 hc hN hi hj hl hij hil hjl hx hy hz ha hw rfl).w fun D σ H h => by
    obtain ⟨M, ι, sp, m, s, post⟩ := h
    refine ⟨M, ι, sp, m, s, PostS.ofA post s fun ps M1 ι1 H1 vs m1 e1 r1 post1 => ?_⟩
    unfold parK at post1
    split at post1
    · rename_i sp' hp
      obtain ⟨p, q, r, rfl, rfl⟩ := asgs3 hp
      cases r1 with
      | cons rp r1 =>
        obtain ⟨v, w, rfl, rq, rr⟩ := r1.two
        exact ⟨_, v, w, rfl, post1 ι1 H1 _ m1 .refl ((((s.ext e1).set rp i).set rq j).set rr l)⟩
    · exact post1.elim
theorem setP_at {M M4 : Store} {p q v : PV} {ι : List Addr} {H : Hp} (m : MRel G M ι H) {x y w : V} (rp : Rp G ι H (Own M ι) p x) (rq : Rp G ι H (Own M ι) q y) (rv : Rp G ι H (Own M ι) v w) (h : setP M p q v = some M4) :
    ∃ a xs k j, x = .ref a ∧ y = .int k ∧ H a = some (.lst xs) ∧ ixN xs.length k = some j ∧ MRel G M4 ι (upd H a (.lst (xs.set j w))) ∧ Ext M ι H M4 ι (upd H a (.lst (xs.set j w))) := by
  unfold setP at h
  split at h
  · rename_i n k
    split at h
    · rename_i xs hx
      split at h
      · rename_i j hj
        cases h
        obtain ⟨a, vs, rfl, h1, h2, h3, h4, h5⟩ := m.lstAt hx rp
        cases rq
        exact ⟨a, vs, k, j, rfl, rfl, h3, by rw [← h5.length]; exact hj, m.writeL h2 h1 (by simpa using h4) (h5.set rv j), Ext.write h2 h1⟩
      · cases h
    · cases h
  · cases h
theorem sole_sub {o i e : PySem.Expr} {tpos : Pos} {l : Nat} {env : Env} : swapsWithSole [.Subscript o i tpos] e l env = pure false := by
  unfold swapsWithSole swapsWith
  cases e <;> rfl
theorem ss_asgI {o i : PySem.Expr} {tpos : Pos} {co ci : Ev PV} (he : PE X e (LE G W ce)) (ho : PE X o (LE G W co)) (hi : PE X i (LE G W ci)) (hn : notSlice i = true) :
    PS X (.Assign [.Subscript o i tpos] e pos) (LS G W fun sp M => .ofR (ce sp M) sp fun v M1 => .ofR (co sp M1) sp fun p M2 => .ofR (ci sp M2) sp fun q M3 => setK sp v p q M3) :=
  (ps_asg he (pg_sub ho hi set_list (by intro v; cases i <;> first | rfl | cases hn)) sole_sub (by unfold swappedStores; cases e <;> rfl) rfl).w fun D σ H h => by
    obtain ⟨M, ι, sp, m, s, post⟩ := h
    refine ⟨M, ι, sp, m, s, PostS.ofE post s fun v M1 ι1 H1 w m1 e1 r1 post1 => ⟨M1, ι1, sp, m1, s.ext e1, PostS.ofE post1 (s.ext e1) fun p M2 ι2 H2 x m2 e2 r2 post2 => ⟨M2, ι2, sp, m2, (s.ext e1).ext e2, PostS.ofE post2 ((s.ext e1).ext e2) fun q M3 ι3 H3 y m3 e3 r3 post3 => ?_⟩⟩⟩
    unfold setK at post3
    split at post3
    · rename_i M4 hs
      obtain ⟨a, xs, k, j, rfl, rfl, h1, h2, h3, h4⟩ := setP_at m3 (r2.ext e3) r3 ((r1.ext e2).ext e3) hs
      exact ⟨a, xs, k, j, rfl, rfl, h1, h2, post3 ι3 _ σ h3 h4 ((((s.ext e1).ext e2).ext e3).ext h4)⟩
    · exact post3.elim
/-! ### in place -/
def LIp (G : Gd) (op : Operator) : TIp := fun x y H Q => ∃ M ι p q, MRel G M ι H ∧ Rp G ι H (Own M ι) p x ∧ Rp G ι H (Own M ι) q y ∧ PostV G M ι H Q (augP op M p q)
theorem ip_aug : ∀ op : Operator, PIp X op (LIp G op) := by
  intro op pins s σ H x y v u Q I rx ry h
  obtain ⟨M, ι, p, q, m, rp, rq, post⟩ := h
  unfold augP at post
  split at post
  · rename_i i j
    cases rp
    cases rq
    split at post
    · exact ip_add pins s σ H _ _ v u Q I rx ry ⟨i, j, rfl, rfl, post.now m (.int _)⟩
    · exact ip_sub pins s σ H _ _ v u Q I rx ry ⟨i, j, rfl, rfl, post.now m (.int _)⟩
    · split at post
      · rename_i hz
        simp only [Bool.and_eq_true, decide_eq_true_eq] at hz
        exact iop_mul pins s σ H _ _ v u Q I rx ry ⟨i, j, rfl, rfl, .inr hz, post.now m (.int _)⟩
      · exact post.elim
    · exact post.elim
  · exact post.elim
theorem ss_aug {i : Nat} {x : Str} {op : Operator} {px : Pos} (hN : X.N.Nodup) (hi : X.N[i]? = some x) (hx : Loc X.env.scope x) (hf : X.fn x = true ∨ X.env.scope.names.lookup x = some .local) (he : PE X e (LE G W ce)) :
    PS X (.AugAssign (.Name x px) op e pos) (LS G W fun sp M => match sp[i]? with
      | some (some p) => .ofR (ce sp M) sp (augK op i sp p)
      | _ => .bad) :=
  (ps_aug hN hi hx he (ip_aug op) hf).w fun D σ H h => by
    obtain ⟨M, ι, sp, m, s, post⟩ := h
    dsimp only at post
    split at post
    · rename_i p hp
      obtain ⟨v, h1, h2⟩ := s.at_ i p hp
      refine ⟨v, h1, M, ι, sp, m, s, PostS.ofE post s fun q M1 ι1 H1 w m1 e1 r1 post1 => ⟨M1, ι1, p, q, m1, h2.ext e1, r1, ?_⟩⟩
      unfold augK at post1
      split at post1
      · rename_i r hr
        rw [hr]
        exact fun ι2 H2 z m2 e2 r2 => post1 ι2 H2 _ m2 e2 (((s.ext e1).ext e2).set r2 i)
      · exact post1.elim
    · exact post.elim
end
end DI
set_option maxHeartbeats 4000000
/-! # DI: more statements -/
namespace DI
open PySem PySem.Spec L2

theorem get_listL {X : Cx} : PGet X (rIxL X.K) := by
  intro pins s σ H x y v u Q I rx ry h
  obtain ⟨p, xs, i, z, rfl, rfl, hq, he, q⟩ := h
  cases rx
  obtain ⟨t, rfl⟩ := ry
  obtain ⟨its, r, pl, hz⟩ := I.list hq
  obtain ⟨j, h1, h2, h3, h4, h5⟩ := atI_get he
  obtain ⟨w, ew, rw'⟩ := r.get h2
  have hl := r.length
  have hn := line63
  have fin : EP X pins σ Q w s := ⟨z, H, I, rw', q⟩
  by_cases h0 : 0 ≤ i
  · have hj : i.toNat = j := by
      rw [seqIndex_of h0 h5] at h1
      exact Option.some.inj h1
    exact wpAny_getItem_list pl.isList h0 (by omega) (by rw [hj]; simpa using ew) fin
  · have hj : (i + (its.toArray.size : Int)).toNat = j := by
      rw [seqIndex_neg (by omega) h4] at h1
      rw [List.size_toArray, ← hl]
      exact Option.some.inj h1
    exact wpAny_getItem_list_neg pl.isList (by omega) (by rw [List.size_toArray] <;> omega) (by omega) (by rw [hj]; simpa using ew) fin
section
variable {T : Tab} {G : Gd} {Γ : Fns} {W : WX} {X : Cx} {pos : Pos} {e : PySem.Expr} {ce : Ev PV} {cc : Ev Bool} {ca cb : Ex}
theorem ss_augI (hK : X.K = G.K) {op : Operator} {o i : PySem.Expr} {tpos : Pos} {co ci : Ev PV} (ho : PE X o (LE G W co)) (hi : PE X i (LE G W ci)) (hn : notSlice i = true) (he : PE X e (LE G W ce)) :
    PS X (.AugAssign (.Subscript o i tpos) op e pos) (LS G W fun sp M => .ofR (co sp M) sp fun p M1 => .ofR (ci sp M1) sp fun k M2 => if isRef p = true then augIK op sp ce p k M2 else .bad) :=
  (ps_augS ho hi get_listL he (ip_aug op) set_list (by intro ov iv new; cases i <;> first | rfl | cases hn)).w fun D σ H h => by
    obtain ⟨M, ι, sp, m, s, post⟩ := h
    refine ⟨M, ι, sp, m, s, PostS.ofE post s fun p M1 ι1 H1 x m1 e1 r1 post1 => ⟨M1, ι1, sp, m1, s.ext e1, PostS.ofE post1 (s.ext e1) fun k M2 ι2 H2 y m2 e2 r2 post2 => ?_⟩⟩
    have s2 := (s.ext e1).ext e2
    split at post2
    · rename_i hr
      unfold isRef at hr
      split at hr
      · rename_i n
        have rp := r1.ext e2
        unfold augIK at post2
        split at post2
        · rename_i old ho
          cases k with
          | int k =>
            cases r2
            simp only [idxP] at ho
            split at ho
            · rename_i xs hx
              obtain ⟨a, vs, rfl, h1, h2, h3, h4, h5⟩ := m2.lstAt hx rp
              obtain ⟨w, hw, rw'⟩ := h5.atI ho
              refine ⟨a, vs, k, w, rfl, rfl, SqL.of h3, hw, M2, ι2, sp, m2, s2, PostS.ofE post2 s2 fun q M3 ι3 H3 z m3 e3 r3 post3 => ⟨M3, ι3, old, q, m3, rw'.ext e3, r3, ?_⟩⟩
              split at post3
              · rename_i r hr
                rw [hr]
                intro ι4 H4 u m4 e4 r4
                unfold setK at post3
                split at post3
                · rename_i M4 hs
                  obtain ⟨a', xs', k', j, q1, q2, q3, q4, q5, q6⟩ := setP_at m4 ((rp.ext e3).ext e4) ((Rp.int k).ext (e3.trans e4)) r4 hs
                  exact ⟨a', xs', k', j, q1, q2, q3, q4, post3 ι4 _ σ q5 (e4.trans q6) ((((s2.ext e3).ext e4)).ext q6)⟩
                · exact post3.elim
              · exact post3.elim
            · cases ho
          | _ => simp [idxP] at ho
        · exact post2.elim
      · cases hr
    · exact post2.elim
/-! ### small statements -/
theorem ss_expr (he : PE X e (LE G W ce)) (hs : swapsWith e none pos.line X.env = pure false) : PS X (.Expr e pos) (LS G W fun sp M => .ofR (ce sp M) sp fun _ M1 => .nx sp M1) :=
  (ps_expr he hs).w fun D σ H h => by
    obtain ⟨M, ι, sp, m, s, post⟩ := h
    exact ⟨M, ι, sp, m, s, PostS.ofE post s fun p M1 ι1 H1 x m1 e1 r1 post1 => post1 ι1 H1 σ m1 .refl (s.ext e1)⟩
theorem ss_ret (he : PE X e (LE G W ce)) : PS X (.Return (some e) pos) (LS G W fun sp M => .ofR (ce sp M) sp fun p M1 => .ret p M1) :=
  (ps_ret he).w fun D σ H h => by
    obtain ⟨M, ι, sp, m, s, post⟩ := h
    exact ⟨M, ι, sp, m, s, PostS.ofE post s fun p M1 ι1 H1 x m1 e1 r1 post1 => post1 ι1 H1 x m1 .refl r1⟩
theorem ss_retN : PS X (.Return none pos) (LS G W fun _ M => .ret .non M) := ps_retN.w fun D σ H h => by
  obtain ⟨M, ι, sp, m, s, post⟩ := h
  exact post ι H _ m .refl .non
theorem ss_pass : PS X (.Pass pos) (LS G W fun sp M => .nx sp M) := ps_pass.w fun D σ H h => by
  obtain ⟨M, ι, sp, m, s, post⟩ := h
  exact post ι H σ m .refl s
theorem ss_brk : PS X (.Break pos) (LS G W fun sp M => .brk sp M) := ps_break.w fun D σ H h => by
  obtain ⟨M, ι, sp, m, s, post⟩ := h
  exact post ι H σ m .refl s
theorem ss_cnt : PS X (.Continue pos) (LS G W fun sp M => .cnt sp M) := ps_continue.w fun D σ H h => by
  obtain ⟨M, ι, sp, m, s, post⟩ := h
  exact post ι H σ m .refl s
theorem ss_nil : PSs X [] (LS G W fun sp M => .nx sp M) := pss_nil.w fun D σ H h => by
  obtain ⟨M, ι, sp, m, s, post⟩ := h
  exact post ι H σ m .refl s
theorem ss_cons {st : PySem.Stmt} {rest : List PySem.Stmt} (h1 : PS X st (LS G W ca)) (h2 : PSs X rest (LS G W cb)) : PSs X (st :: rest) (LS G W fun sp M => (ca sp M).seq cb) :=
  (pss_cons h1 h2).w fun D σ H h => by
    obtain ⟨M, ι, sp, m, s, post⟩ := h
    refine ⟨M, ι, sp, m, s, ?_⟩
    dsimp only at post
    cases e : ca sp M with
    | nx sp2 M2 =>
      rw [e] at post
      exact fun ι' H' σ' a b c => ⟨M2, ι', sp2, a, c, PostS.from (r := cb sp2 M2) post b⟩
    | _ => rw [e] at post; exact post
theorem ss_if {c : PySem.Expr} {a b : List PySem.Stmt} (hc : PT X c (LT G W cc)) (ha : PSs X a (LS G W ca)) (hb : PSs X b (LS G W cb)) : PS X (.If c a b pos) (LS G W fun sp M => .ofR (cc sp M) sp fun t M1 => if t = true then ca sp M1 else cb sp M1) :=
  (ps_if hc ha hb).w fun D σ H h => by
    obtain ⟨M, ι, sp, m, s, post⟩ := h
    refine ⟨M, ι, sp, m, s, PostS.ofT (k := fun t M1 => if t = true then ca sp M1 else cb sp M1) post s fun t M1 ι1 H1 m1 e1 post1 => ?_⟩
    cases t with
    | true => exact ⟨M1, ι1, sp, m1, s.ext e1, post1⟩
    | false => exact ⟨M1, ι1, sp, m1, s.ext e1, post1⟩
/-! ### loops -/
theorem Grow.same_of {H Hd' H'' : Hp} (g : Grow H H Hd' H'') : Hd' = H'' := by cases g <;> rfl
theorem ss_for {tg iter : PySem.Expr} {body : List PySem.Stmt} {ci : Ev ItV} {t : CT} (hp : PassesOwn (model X.prog X.w) X.A X.env X.xe) (hc : X.calm = true) (hi : PI X tg iter (LI G W ci)) (hg : PG X tg (LG G t)) (hb : PSs X body (LS G W cb)) (hs : ∀ x, foldedSetIterable iter X.env x = pure x) :
    PS X (.For tg iter body [] pos) (LS G W fun sp M => .ofR (ci sp M) sp fun J M1 => forR J.gd (asg t) cb J.items sp M1) :=
  (ps_for hp hc hi hg hb hs).w fun D σ H h => by
    obtain ⟨M, ι, sp, m, s, post⟩ := h
    refine ⟨M, ι, sp, m, s, PostS.ofI post s fun V M1 ι1 H1 J m1 e1 ir post1 => ?_⟩
    refine ⟨fun i mm σ H => ∃ Mi ιi spi, mm = V.items.length - i ∧ i ≤ V.items.length ∧ MRel G Mi ιi H ∧ Ext M1 ι1 H1 Mi ιi H ∧ SRep G Mi ιi H spi σ ∧ PostS G W D Mi ιi H (forR V.gd (asg t) cb (V.items.drop i) spi Mi), ⟨_, M1, ι1, sp, rfl, Nat.zero_le _, m1, .refl, s.ext e1, post1⟩, ?_⟩
    rintro i mm σ H ⟨Mi, ιi, spi, rfl, hi, mi, ei, si, posti⟩
    by_cases hlt : i < V.items.length
    · rw [List.drop_eq_getElem_cons hlt] at posti
      have hx : V.items[i]? = some V.items[i] := List.getElem?_eq_getElem hlt
      generalize V.items[i] = x at hx posti
      unfold forR gdIfS at posti
      by_cases hgd : gdOk Mi V.gd
      case neg => rw [if_neg hgd] at posti; exact posti.elim
      rw [if_pos hgd] at posti
      obtain ⟨jgo, jy⟩ := ir.go Mi ιi H H i x mi ei hgd Sub.rfl' hx
      refine .inr ⟨jgo, fun σ' H' => ∃ Mi ιi spi, V.items.length - (i + 1) = V.items.length - (i + 1) ∧ i + 1 ≤ V.items.length ∧ MRel G Mi ιi H' ∧ Ext M1 ι1 H1 Mi ιi H' ∧ SRep G Mi ιi H' spi σ' ∧ PostS G W D Mi ιi H' (forR V.gd (asg t) cb (V.items.drop (i + 1)) spi Mi), fun σ' H' hn => ⟨_, by omega, hn⟩, fun v H'' y => ?_⟩
      obtain ⟨Hd', gr, m2, e2, rv⟩ := jy v H'' y
      have := gr.same_of
      subst this
      split at posti
      · exact posti.elim
      · rename_i sp1 ha
        refine ⟨Mi, ιi, Hd', spi, x, Sub.rfl', si.ext e2, rv, sp1, ha, fun σ2 s2 _ => ⟨Mi, ιi, sp1, m2, s2, ?_⟩⟩
        have posti := PostS.from posti e2
        cases er : cb sp1 Mi with
        | nx sp2 M2 =>
          rw [er] at posti
          exact fun ι' H' σ' a b c => ⟨M2, ι', sp2, rfl, by omega, a, (ei.trans e2).trans b, c, PostS.from (r := forR V.gd (asg t) cb (V.items.drop (i + 1)) sp2 M2) posti b⟩
        | cnt sp2 M2 =>
          rw [er] at posti
          exact fun ι' H' σ' a b c => ⟨M2, ι', sp2, rfl, by omega, a, (ei.trans e2).trans b, c, PostS.from (r := forR V.gd (asg t) cb (V.items.drop (i + 1)) sp2 M2) posti b⟩
        | brk sp2 M2 => rw [er] at posti; exact posti
        | ret p M2 => rw [er] at posti; exact posti
        | exc x sp2 M2 => rw [er] at posti; exact posti
        | bad => rw [er] at posti; exact posti
    · have e : i = V.items.length := by omega
      rw [e, List.drop_length] at posti
      unfold forR gdIfS at posti
      by_cases hgd : gdOk Mi V.gd
      case neg => rw [if_neg hgd] at posti; exact posti.elim
      rw [if_pos hgd] at posti
      exact .inl ⟨by rw [e]; exact ir.stop Mi ιi H H mi ei hgd Sub.rfl', posti ιi H σ mi .refl si⟩
theorem ss_while {c : PySem.Expr} {body : List PySem.Stmt} (hp : PassesOwn (model X.prog X.w) X.A X.env X.xe) (hc : PT X c (LT G W cc)) (hb : PSs X body (LS G W cb)) : PS X (.While c body [] pos) (LS G W (whileR cc cb)) :=
  (ps_while hp hc hb).w fun D σ H h => by
    obtain ⟨M, ι, sp, m, s, post⟩ := h
    by_cases hh : ∃ n, whileN cc cb n sp M ≠ .bad
    case neg =>
      rw [whileR_bad fun n => Classical.byContradiction fun z => hh ⟨n, z⟩] at post
      exact post.elim
    obtain ⟨n0, hn0⟩ := hh
    rw [whileR_of hn0] at post
    refine ⟨fun mm σ H => ∃ Mi ιi spi, MRel G Mi ιi H ∧ SRep G Mi ιi H spi σ ∧ PostS G W D Mi ιi H (whileN cc cb mm spi Mi), ⟨n0, M, ι, sp, m, s, post⟩, ?_⟩
    rintro mm σ H ⟨Mi, ιi, spi, mi, si, posti⟩
    cases mm with
    | zero => exact posti.elim
    | succ k =>
      refine ⟨Mi, ιi, spi, mi, si, PostS.ofT (sp := spi) (k := fun b M1 => if b = true then (match cb spi M1 with
        | .nx sp2 M2 => whileN cc cb k sp2 M2
        | .cnt sp2 M2 => whileN cc cb k sp2 M2
        | .brk sp2 M2 => .nx sp2 M2
        | r => r) else .nx spi M1) posti si fun b M1 ι1 H1 m1 e1 post1 => ?_⟩
      cases b with
      | false => exact post1 ι1 H1 σ m1 .refl (si.ext e1)
      | true =>
        rw [if_pos rfl] at post1
        refine ⟨fun σ' H' => ∃ Mi ιi spi, MRel G Mi ιi H' ∧ SRep G Mi ιi H' spi σ' ∧ PostS G W D Mi ιi H' (whileN cc cb k spi Mi), fun σ' H' hn => ⟨k, by omega, hn⟩, M1, ι1, spi, m1, si.ext e1, ?_⟩
        cases er : cb spi M1 with
        | nx sp2 M2 =>
          rw [er] at post1
          exact fun ι' H' σ' a b c => ⟨M2, ι', sp2, a, c, PostS.from (r := whileN cc cb k sp2 M2) post1 b⟩
        | cnt sp2 M2 =>
          rw [er] at post1
          exact fun ι' H' σ' a b c => ⟨M2, ι', sp2, a, c, PostS.from (r := whileN cc cb k sp2 M2) post1 b⟩
        | brk sp2 M2 => rw [er] at post1; exact post1
        | ret p M2 => rw [er] at post1; exact post1
        | exc x sp2 M2 => rw [er] at post1; exact post1
        | bad => rw [er] at post1; exact post1
end
end DI
set_option maxHeartbeats 4000000
/-! # DI: raise, try; the test of statements -/
namespace DI
open PySem PySem.Spec L2

/-- X(), X an own exception class without own __init__ -/
theorem pmk_own0 {X : Cx} {C : Addr} {bmB : List Value} {B newId initId : String} {x : Str} {p pos : Pos} (F : ExcBaseFacts B newId initId bmB) (q : PySem.W.excIn X.K C bmB newId = true) (gC : X.mg x = some (.ref C))
    (kC : PySem.W.keepIn X.K (.ref C) = true) (r : Raises X (.ref C)) (hg : Gl X x) (hdb : (x == ("__debug__" : Str)) = false) :
    PMk X (.Call (.Name x p) [] [] pos) (fun σ H Q => Q (.ref C) none H) := by
  intro pins s σ H Q I h
  refine wpAny_Call_Name_kw (ld_glob I hg gC ?_ hdb)
  refine PySem.W.callWith_K0 I.kIn kC ?_
  show wpAny _ _ (call (.ref C) []) _ _ _
  obtain ⟨bm, N, nm, qn, bs, hdct, sn, sub, ab, col, dd, k0, k1, k2, k3, k5, mN, hC, hN, hni, T⟩ := exc_obj I.kIn q
  refine wpAny_call_exc_subT F T hC hN hni (fun h' e hm => ?_) (by show 0 ≤ sizeLine; exact Nat.zero_le _)
  exact mk_of I hm r h (I.hok.gone hm.new)
section
variable {T : Tab} {G : Gd} {Γ : Fns} {W : WX} {X : Cx} {pos : Pos} {e : PySem.Expr} {ce : Ev PV} {cc : Ev Bool} {ca cb : Ex}
theorem ss_raise0 (tok : TabOk T G) (hK : X.K = G.K) (hmg : X.mg = G.mg) (hc : X.calm = true) (tk : Takes X W) {c : Nat} {x : Str} {fs : List Str} {p p2 : Pos} (h1 : T.cnm[c]? = some (x, fs)) (h2 : c ∈ T.ex0) (hg : Gl X x) (hd : dbgB x = true) :
    PS X (.Raise (some (.Call (.Name x p) [] [] p2)) none pos) (LS G W fun sp M => .exc ⟨c, []⟩ sp M) := by
  obtain ⟨C, bmB, B, newId, initId, F, k1, k2, k3, k4, k5⟩ := tok.ex0 c h2 x fs h1
  refine (ps_raise hc tk (pmk_own0 F (by rw [hK]; exact k1) (by rw [hmg]; exact k2) (by rw [hK]; exact k3) (raises_own (by rw [hK]; exact k4) (by rw [hK]; exact k5)) hg (dbg1 hd))).w fun D σ H h => ?_
  obtain ⟨M, ι, sp, m, s, post⟩ := h
  exact post ι H σ (.ref C) none m .refl s ⟨x, fs, C, (tok.cnm c x fs h1).1, k2, rfl, fun i p z => by simp at z⟩
/-! ### suites -/
mutual
def chkHE (h : HE) (e : PySem.Expr) : Bool := match h with
  | .non => match e with
    | .Constant .none _ _ => true
    | _ => false
  | .bl b => match e with
    | .Constant (.bool d) _ _ => decide (b = d)
    | _ => false
  | .int i => match e with
    | .Constant (.int j) _ _ => decide (i = j)
    | _ => false
  | .str s => match e with
    | .Constant (.str z) _ _ => decide (s = z)
    | _ => false
  | .fld _ => false
  | .tup hs => match e with
    | .Tuple es _ _ => decide (es.length ≤ 100) && chkHEs hs es
    | _ => false
def chkHEs (hs : List HE) (es : List PySem.Expr) : Bool := match hs with
  | [] => es.isEmpty
  | h :: hs => match es with
    | e :: es => notStar e && chkHE h e && chkHEs hs es
    | [] => false
end
mutual
theorem chkHE_ok : ∀ (h : HE) (e : PySem.Expr), chkHE h e = true → ∀ x, PE X e (LE G W fun _ M => .ofO (evH x h) M)
  | .non, e, h, x => by
    unfold chkHE at h
    split at h
    · exact se_const pe_non (fun _ _ _ _ => .non) fun sp M => by simp only [evH, Res.ofO]
    · cases h
  | .bl b, e, h, x => by
    unfold chkHE at h
    split at h
    · have h := of_decide_eq_true h
      subst h
      exact se_const pe_bl (fun _ _ _ _ => .bl _) fun sp M => by simp only [evH, Res.ofO]
    · cases h
  | .int i, e, h, x => by
    unfold chkHE at h
    split at h
    · have h := of_decide_eq_true h
      subst h
      exact se_const pe_int (fun _ _ _ _ => .int _) fun sp M => by simp only [evH, Res.ofO]
    · cases h
  | .str s, e, h, x => by
    unfold chkHE at h
    split at h
    · have h := of_decide_eq_true h
      subst h
      exact se_const pe_str (fun _ _ _ _ => .str _) fun sp M => by simp only [evH, Res.ofO]
    · cases h
  | .fld _, e, h, x => by unfold chkHE at h; cases h
  | .tup hs, e, h, x => by
    unfold chkHE at h
    split at h
    · rename_i es k p
      rw [Bool.and_eq_true] at h
      refine (se_tup (chkHEs_ok hs es h.2 x)).w fun σ H Q hh => ?_
      obtain ⟨M, ι, sp, m, s, post⟩ := hh
      refine ⟨M, ι, sp, m, s, ?_⟩
      simp only [evH] at post
      cases e2 : evHs x hs with
      | none => rw [e2] at post; exact post.elim
      | some ps =>
        rw [e2] at post
        show PostE G W σ M ι H Q (if ps.length ≤ sizeLine then _ else _)
        have hl : ps.length ≤ sizeLine := by
          have := chkHEs_len hs es ps x h.2 e2
          have := of_decide_eq_true h.1
          have : 100 ≤ sizeLine := by decide
          omega
        rw [if_pos hl]
        exact post
    · cases h
theorem chkHEs_ok : ∀ (hs : List HE) (es : List PySem.Expr), chkHEs hs es = true → ∀ x, PA X es (LA G W fun _ M => .ofO (evHs x hs) M)
  | [], es, h, x => by
    unfold chkHEs at h
    have e : es = [] := by simpa using h
    subst e
    simp only [evHs]
    exact sa_nil
  | h0 :: hs, es, h, x => by
    unfold chkHEs at h
    split at h
    · obtain ⟨h1, h2, h3⟩ := and3 h
      refine (sa_cons h1 (chkHE_ok h0 _ h2 x) (chkHEs_ok hs _ h3 x)).w fun σ H Q hh => ?_
      obtain ⟨M, ι, sp, m, s, post⟩ := hh
      refine ⟨M, ι, sp, m, s, ?_⟩
      simp only [evHs] at post
      cases e1 : evH x h0 with
      | none => rw [e1] at post; exact post.elim
      | some p =>
        cases e2 : evHs x hs with
        | none => rw [e1, e2] at post; exact post.elim
        | some ps => rw [e1, e2] at post; exact post
    · cases h
theorem chkHEs_len : ∀ (hs : List HE) (es : List PySem.Expr) (ps : List PV) (x : Exc), chkHEs hs es = true → evHs x hs = some ps → ps.length = es.length
  | [], es, ps, x, h, e => by
    unfold chkHEs at h
    have e' : es = [] := by simpa using h
    subst e'
    simp only [evHs] at e
    cases e
    rfl
  | h0 :: hs, es, ps, x, h, e => by
    unfold chkHEs at h
    split at h
    · rename_i e0 es
      obtain ⟨h1, h2, h3⟩ := and3 h
      simp only [evHs] at e
      cases e1 : evH x h0 with
      | none => rw [e1] at e; cases e
      | some p =>
        cases e2 : evHs x hs with
        | none => rw [e1, e2] at e; cases e
        | some qs =>
          rw [e1, e2] at e
          cases e
          simp [chkHEs_len hs es qs x h3 e2]
    · cases h
end
def chkHS (h : HS) (b : List PySem.Stmt) : Bool := match h with
  | .ret h => match b with
    | [.Return (some e) _] => chkHE h e
    | _ => false
  | .raise _ => false
  | .cont => match b with
    | [.Continue _] => true
    | _ => false
  | .pass => match b with
    | [.Pass _] => true
    | _ => false
theorem chkHS_ok (h : HS) (b : List PySem.Stmt) (hh : chkHS h b = true) (x : Exc) : PSs X b (LS G W fun sp M => runS x h sp M) := by
  unfold chkHS at hh
  split at hh
  · split at hh
    · refine pss_one ((ps_ret (chkHE_ok (G := G) (W := W) _ _ hh x)).w fun D σ H hq => ?_)
      obtain ⟨M, ι, sp, m, s, post⟩ := hq
      refine ⟨M, ι, sp, m, s, ?_⟩
      simp only [runS] at post
      split at post
      · rename_i p hp
        show PostE G W σ M ι H D.rt (.ofO (evH x _) M)
        rw [hp]
        exact post
      · exact post.elim
    · cases hh
  · cases hh
  · split at hh
    · exact pss_one (ss_cnt.w fun D σ H hq => hq)
    · cases hh
  · split at hh
    · exact pss_one (ss_pass.w fun D σ H hq => hq)
    · cases hh
def chkH (T : Tab) (sc : Scope) (h : HC) (hd : ExceptHandler) : Bool := match hd with
  | .ExceptHandler (some (.Name x _)) none (b₀ :: b) _ => decide (h.nm = none) && (match T.cnm[h.c]? with
    | some (y, _) => decide (x = y)
    | none => false) && glB sc x && dbgB x && chkHS h.su (b₀ :: b)
  | _ => false
def chkHs (T : Tab) (sc : Scope) : List HC → List ExceptHandler → Bool
  | [], [] => true
  | h :: hs, e :: es => chkH T sc h e && chkHs T sc hs es
  | _, _ => false
/-- what the layer's clauses are -/
def hcTs (G : Gd) (h : HC) : Addr → Value → Option Addr → TS := fun _ _ _ => LS G W0 fun sp M => runS ⟨0, []⟩ h.su sp M
theorem chkHs_ok (tok : TabOk T G) {N : List Str} {sc : Scope} {fb : Str → Bool} (g : Good G Γ N sc fb X) : ∀ (hs : List HC) (es : List ExceptHandler), chkHs T sc hs es = true →
    ∃ l : List (Value × (Addr → Value → Option Addr → TS)), HdsOk X es l ∧ ∀ (Wout : WX) (D : Ends) (x : Exc) (M : Store) (ι : List Addr) (H : Hp) (sp : Sl) (σ : St) (cv : Value) (d : Option Addr), MRel G M ι H → SRep G M ι H sp σ → XRep G ι H (Own M ι) x cv d →
      PostS G Wout D M ι H (runH T.exm x sp M hs) → wMany X.K Wout D l cv d σ H
  | [], [], _ => ⟨[], .nil, fun Wout D x M ι H sp σ cv d m s r post => post ι H σ cv d m .refl s r⟩
  | [], _ :: _, h => by simp [chkHs] at h
  | _ :: _, [], h => by simp [chkHs] at h
  | h :: hs, e :: es, hh => by
    simp only [chkHs, Bool.and_eq_true] at hh
    obtain ⟨l, hl, ih⟩ := chkHs_ok tok g hs es hh.2
    have h1 := hh.1
    unfold chkH at h1
    split at h1
    · rename_i x p b₀ b p2
      simp only [Bool.and_eq_true] at h1
      obtain ⟨⟨⟨⟨k1, k2⟩, k3⟩, k4⟩, k5⟩ := h1
      have k1 := of_decide_eq_true k1
      split at k2
      · rename_i y fs hy
        have k2 := of_decide_eq_true k2
        subst k2
        obtain ⟨n1, C, n2⟩ := tok.cnm _ _ _ hy
        refine ⟨(.ref C, hcTs G h) :: l, .cons ⟨g.gl k3, dbg1 k4, .inl (by rw [g.hmg]; exact n2)⟩ (fun a oe cls d pn _ _ => chkHS_ok h.su _ k5 ⟨0, []⟩) hl, ?_⟩
        intro Wout D x0 M ι H sp σ cv d m s r post
        obtain ⟨nm, fn, C0, q1, q2, q3, q4⟩ := id r
        simp only [runH] at post
        split at post
        · rename_i he
          refine ⟨true, ?_, fun _ a ha => ?_, fun z => nomatch z⟩
          · unfold excM at he
            split at he
            · rename_i z1 z2 b0 hf
              cases he
              have hm := List.mem_of_find?_eq_some hf
              have hp := List.find?_some hf
              simp only [Bool.and_eq_true, beq_iff_eq] at hp
              obtain ⟨rfl, rfl⟩ := hp
              rw [g.hK, q3]
              exact tok.exm _ _ _ hm _ _ _ _ _ _ q1 n1 q2 n2
            · cases he
          · rw [k1] at post
            refine ⟨M, ι, sp, m, s, ?_⟩
            dsimp only at post ⊢
            have key : ∀ {x1 : Exc} {su : HS}, PostS G Wout D M ι H (runS x1 su sp M) → chkHS su (b₀ :: b) = true → PostS G W0 D M ι H (runS x1 su sp M) := fun {x1 su} pp hk => by
              cases su with
              | ret e =>
                simp only [runS] at pp ⊢
                split at pp
                · exact pp
                · exact pp.elim
              | raise c => simp [chkHS] at hk
              | cont => exact pp
              | pass => exact pp
            exact key post k5
        · rename_i he
          refine ⟨false, ?_, fun z => (nomatch z), fun _ => ih Wout D x0 M ι H sp σ cv d m s r post⟩
          unfold excM at he
          split at he
          · rename_i z1 z2 b0 hf
            cases he
            have hm := List.mem_of_find?_eq_some hf
            have hp := List.find?_some hf
            simp only [Bool.and_eq_true, beq_iff_eq] at hp
            obtain ⟨rfl, rfl⟩ := hp
            rw [g.hK, q3]
            exact tok.exm _ _ _ hm _ _ _ _ _ _ q1 n1 q2 n2
          · cases he
        · exact post.elim
      · cases k2
    · cases h1
end
end DI
set_option maxHeartbeats 8000000
/-! # DI: the test of statements and what it says -/
namespace DI
open PySem PySem.Spec L2

/-- the stores are not swapped -/
def swNone (tg e : PySem.Expr) : Bool := match tg, e with
  | .Tuple ts _ _, .Tuple vs _ _ => !(ts.length == 2 || ts.length == 3) || vs.length != ts.length || vs.all (foldedForSure 8)
  | .List .., .Tuple .. => false
  | _, _ => true
theorem swNone_ok {tg e : PySem.Expr} {env : Env} (h : swNone tg e = true) : swappedStores [tg] e env = pure none := by
  unfold swNone at h
  split at h
  · rename_i ts k p vs k2 p2
    simp only [swappedStores, pure_bind]
    simp only [Bool.or_eq_true] at h
    rcases h with (h | h) | h
    · rw [if_pos (by rw [h]; rfl)]
    · by_cases h1 : (!(ts.length == 2 || ts.length == 3) || vs.length != ts.length || env.blockKind != .function) = true
      · rw [if_pos h1]
      · exact absurd (by rw [h]; simp) h1
    · split
      · rfl
      · split
        · rfl
        · split
          · rfl
          · first | rfl | rw [if_pos h]
  · cases h
  · rename_i h1 h2
    cases tg <;> first
      | rfl
      | (cases e <;> first
          | rfl
          | exact (h1 _ _ _ _ _ _ rfl rfl).elim
          | exact (h2 _ _ _ _ _ rfl rfl).elim)
/-- names of plain locals, swapped -/
def parB (sc : Scope) (px py : Pos) (x y : Str) (vs : List PySem.Expr) : Bool :=
  decide (sc.names.lookup x = some .local) && decide (sc.names.lookup y = some .local) && (py.line == px.line) && !(x == y) && vs.all notStar && !(vs.all (foldedForSure 8)) && !(vs.all (constantsAlone 8))
theorem starB {a : PySem.Expr} : (match a with | .Starred .. => true | _ => false) = !notStar a := by cases a <;> rfl
theorem par2_ok {sc : Scope} {env : Env} {px py pt pt2 : Pos} {x y : Str} {a b : PySem.Expr} {kt k2 : Nat} (hs : env.scope = sc) (hk : sc.kind = .function) (h : parB sc px py x y [a, b] = true) :
    swappedStores [.Tuple [.Name x px, .Name y py] kt pt] (.Tuple [a, b] k2 pt2) env = pure (some [x, y]) := by
  unfold parB at h
  simp only [Bool.and_eq_true, decide_eq_true_eq, Bool.not_eq_true', List.all_cons, List.all_nil, Bool.and_true] at h
  obtain ⟨⟨⟨⟨⟨⟨h1, h2⟩, h3⟩, h4⟩, h5, h5'⟩, h6⟩, h7⟩ := h
  have kx : env.kindOf x = some .local := by show env.scope.names.lookup x = _; rw [hs]; exact h1
  have ky : env.kindOf y = some .local := by show env.scope.names.lookup y = _; rw [hs]; exact h2
  have hb : env.blockKind = .function := by unfold Env.blockKind; rw [hs, hk]; rfl
  have hne : x ≠ y := fun e => by subst e; simp at h4
  simp only [swappedStores, pure_bind]
  simp only [hb, List.any_cons, List.any_nil, starB, h5, h5', List.filterMap_cons, List.filterMap_nil, kx, ky, List.head?_cons, Option.map_some, Option.getD_some, PySem.Expr.pos, h3, List.all_cons, List.all_nil, Bool.and_true]
  simp [h6, h7, List.eraseDups_cons, hne, Ne.symm hne]
  clear h6 h7
  rintro (z | z)
  · cases a <;> first | exact absurd h5 Bool.false_ne_true | exact absurd z Bool.false_ne_true
  · cases b <;> first | exact absurd h5' Bool.false_ne_true | exact absurd z Bool.false_ne_true
theorem par3_ok {sc : Scope} {env : Env} {px py pz pt pt2 : Pos} {x y z : Str} {a b c : PySem.Expr} {kt k2 : Nat} (hs : env.scope = sc) (hk : sc.kind = .function) (h : parB sc px py x y [a, b, c] = true) (hz : parB sc px pz x z [a, b, c] = true) (hyz : (y == z) = false) :
    swappedStores [.Tuple [.Name x px, .Name y py, .Name z pz] kt pt] (.Tuple [a, b, c] k2 pt2) env = pure (some [x, y, z]) := by
  unfold parB at h hz
  simp only [Bool.and_eq_true, decide_eq_true_eq, Bool.not_eq_true', List.all_cons, List.all_nil, Bool.and_true] at h hz
  obtain ⟨⟨⟨⟨⟨⟨h1, h2⟩, h3⟩, h4⟩, h5, h5', h5''⟩, h6⟩, h7⟩ := h
  obtain ⟨⟨⟨⟨⟨⟨_, g2⟩, g3⟩, g4⟩, _⟩, _⟩, _⟩ := hz
  have kx : env.kindOf x = some .local := by show env.scope.names.lookup x = _; rw [hs]; exact h1
  have ky : env.kindOf y = some .local := by show env.scope.names.lookup y = _; rw [hs]; exact h2
  have kz : env.kindOf z = some .local := by show env.scope.names.lookup z = _; rw [hs]; exact g2
  have hb : env.blockKind = .function := by unfold Env.blockKind; rw [hs, hk]; rfl
  have hne : x ≠ y := fun e => by subst e; simp at h4
  have hne2 : x ≠ z := fun e => by subst e; simp at g4
  have hne3 : y ≠ z := fun e => by subst e; simp at hyz
  simp only [swappedStores, pure_bind]
  simp only [hb, List.any_cons, List.any_nil, starB, h5, h5', h5'', List.filterMap_cons, List.filterMap_nil, kx, ky, kz, List.head?_cons, Option.map_some, Option.getD_some, PySem.Expr.pos, h3, g3, List.all_cons, List.all_nil, Bool.and_true]
  simp [h6, h7, List.eraseDups_cons, hne, hne2, hne3, Ne.symm hne, Ne.symm hne2, Ne.symm hne3]
  clear h6 h7
  rintro (z | z | z)
  · cases a <;> first | exact absurd h5 Bool.false_ne_true | exact absurd z Bool.false_ne_true
  · cases b <;> first | exact absurd h5' Bool.false_ne_true | exact absurd z Bool.false_ne_true
  · cases c <;> first | exact absurd h5'' Bool.false_ne_true | exact absurd z Bool.false_ne_true
/-- .. name = [..] is taken from the block at once -/
def swLc (sc : Scope) (y : Str) (py lp : Pos) (scope : Scope) : Bool :=
  decide (sc.names.lookup y = some .local) && (py.line == lp.line) && !(scope.names.any fun (n, k) => n == y && (k == .local || k == .cell))
def lcParts : PySem.Expr → Option (Scope × Pos)
  | .ListComp _ _ s p => some (s, p)
  | _ => none
/-- the value is not taken at once -/
def swNo (sc : Scope) (y : Str) (py : Pos) (e : PySem.Expr) : Bool := notComp e || (match lcParts e with
  | some (s, p) => !swLc sc y py p s
  | none => false)
theorem swNo_ok {sc : Scope} {env : Env} {y : Str} {py : Pos} {e : PySem.Expr} {l : Nat} (hs : env.scope = sc) (hk : sc.kind = .function) (h : swNo sc y py e = true) : swapsWith e (some (.Name y py)) l env = pure false := by
  unfold swNo at h
  rw [Bool.or_eq_true] at h
  rcases h with h | h
  · exact swaps_of h
  · split at h
    · rename_i s p hp
      cases e <;> first
        | (cases hp; done)
        | (cases hp
           have hb : (env.blockKind == ScopeKind.function) = true := by unfold Env.blockKind; rw [hs, hk]; rfl
           have hky : env.kindOf y = sc.names.lookup y := by show env.scope.names.lookup y = _; rw [hs]
           unfold swapsWith
           simp only [pure_bind, hb, hky, Bool.true_and, PySem.Expr.pos]
           congr 1
           unfold swLc at h
           simp only [Bool.not_eq_true'] at h
           rw [show ∀ o : Option NameKind, (o == some NameKind.local) = decide (o = some NameKind.local) from fun o => by cases o with | none => rfl | some k => cases k <;> rfl]
           exact h)
    · cases h
section
variable (T : Tab) (N : List Str) (sc : Scope)
mutual
def chkS (c : CS) (st : PySem.Stmt) : Bool := match c with
  | .asg t e => match st with
    | .Assign [tg] v _ => (match t with
      | .name i => match tg with
        | .Name x px => decide (N[i]? = some x) && locB sc x && swNo sc x px v
        | _ => false
      | .tup ts => isTup tg && chkT N sc (fun _ => true) (.tup ts) tg && swNone tg v) && chkE T N sc false e v
    | _ => false
  | .asgC i own tg it cd elt => match st with
    | .Assign [.Name x px] (.ListComp y [⟨tx, ix, fx, 0⟩] scope lp) _ => decide (N[i]? = some x) && swLc sc x px lp scope &&
        (blkC N sc scope own && chkT N (relS scope sc) (fun x => scope.names.lookup x == some .cell) tg tx && tg.slots.all (fun i => (own.map (·.2)).any fun j => decide (j = i)) && notSet ix && chkI T N sc it tx ix && chkC T N (relS scope sc) cd fx && chkE T N (relS scope sc) false elt y)
    | _ => false
  | .par ts es => match ts with
    | [i, j] => match st with
      | .Assign [.Tuple [.Name x px, .Name y py] _ _] (.Tuple [a, b] _ _) _ => decide (N[i]? = some x) && decide (N[j]? = some y) && decide (i ≠ j) && parB sc px py x y [a, b] && chkEs T N sc es [a, b]
      | _ => false
    | [i, j, l] => match st with
      | .Assign [.Tuple [.Name x px, .Name y py, .Name z pz] _ _] (.Tuple [a, b, c] _ _) _ => decide (N[i]? = some x) && decide (N[j]? = some y) && decide (N[l]? = some z) && decide (i ≠ j) && decide (i ≠ l) && decide (j ≠ l) && parB sc px py x y [a, b, c] && parB sc px pz x z [a, b, c] && !(y == z) && chkEs T N sc es [a, b, c]
      | _ => false
    | _ => false
  | .asgI o i e => match st with
    | .Assign [.Subscript x y _] v _ => notSlice y && chkE T N sc false e v && chkE T N sc false o x && chkE T N sc false i y
    | _ => false
  | .aug i op e => match st with
    | .AugAssign (.Name x _) op' v _ => decide (N[i]? = some x) && locB sc x && decide (op = op') && chkE T N sc false e v
    | _ => false
  | .augI o i op e => match st with
    | .AugAssign (.Subscript x y _) op' v _ => notSlice y && decide (op = op') && chkE T N sc false o x && chkE T N sc false i y && chkE T N sc false e v
    | _ => false
  | .expr e => match st with
    | .Expr x _ => notComp x && chkE T N sc false e x
    | _ => false
  | .ret e => match st with
    | .Return (some x) _ => chkE T N sc false e x
    | _ => false
  | .retN => match st with
    | .Return none _ => true
    | _ => false
  | .ite c a b => match st with
    | .If t x y _ => chkE T N sc true c t && chkSs a x && chkSs b y
    | _ => false
  | .forS t it body => match st with
    | .For tg ix b [] _ => chkT N sc (fun _ => true) t tg && notSet ix && chkI T N sc it tg ix && chkSs body b
    | _ => false
  | .whileS c body => match st with
    | .While t b [] _ => chkE T N sc true c t && chkSs body b
    | _ => false
  | .raise c es => match es with
    | .nil => match st with
      | .Raise (some (.Call (.Name x _) [] [] _)) none _ => (match T.cnm[c]? with
        | some (y, _) => decide (x = y)
        | none => false) && T.ex0.any (fun d => decide (d = c)) && glB sc x && dbgB x
      | _ => false
    | _ => false
  | .tryS body hs => match st with
    | .Try b (h :: hds) [] [] _ => chkSs body b && chkHs T sc hs (h :: hds)
    | _ => false
  | .pass => match st with
    | .Pass _ => true
    | _ => false
  | .brk => match st with
    | .Break _ => true
    | _ => false
  | .cnt => match st with
    | .Continue _ => true
    | _ => false
def chkSs (c : CSs) (st : List PySem.Stmt) : Bool := match c with
  | .nil => st.isEmpty
  | .cons c r => match st with
    | s :: st => chkS c s && chkSs r st
    | [] => false
end
end
end DI
set_option maxHeartbeats 8000000
/-! # DI: statements are sound -/
namespace DI
open PySem PySem.Spec L2

structure GoodS (G : Gd) (Γ : Fns) (N : List Str) (sc : Scope) (X : Cx) : Prop where
  good : Good G Γ N sc (fun _ => true) X
  pass : PassesOwn (model X.prog X.w) X.A X.env X.xe
  stk : X.stack = X.env :: X.outer
  frm : X.env.frame = some X.env.locals
  kind : sc.kind = .function
section
variable {T : Tab} {G : Gd} {Γ : Fns} {N : List Str} {sc : Scope}
theorem GoodS.tr {X : Cx} (g : GoodS G Γ N sc X) {pn : List (Addr × Obj)} {xe : Value → Shared → Prop} (h : PassesOwn (model X.prog X.w) X.A X.env xe) : GoodS G Γ N sc (X.tr pn xe) :=
  ⟨⟨g.good.hK, g.good.hmg, g.good.hN, g.good.nd, g.good.hs, g.good.calm, g.good.gds, g.good.un, g.good.st, g.good.fns⟩, h, g.stk, g.frm, g.kind⟩
theorem hfn {X : Cx} (g : GoodS G Γ N sc X) (x : Str) : X.fn x = true ∨ X.env.scope.names.lookup x = some .local := .inl (g.good.st x rfl)
theorem GoodS.nd {X : Cx} (g : GoodS G Γ N sc X) : X.N.Nodup := by
  have h := g.good.nd
  rw [← g.good.hN] at h
  exact h
theorem ix0 {i : Nat} {x : Str} {X : Cx} (g : GoodS G Γ N sc X) (h : N[i]? = some x) : X.N[i]? = some x := by rw [g.good.hN]; exact h
mutual
theorem chkS_ok (tok : TabOk T G) : ∀ (c : CS) (st : PySem.Stmt), chkS T N sc c st = true → ∀ (X : Cx) (W : WX), GoodS G Γ N sc X → Takes X W → PS X st (LS G W (ex T Γ c))
  | .asg t e, st, h, X, W, g, tk => by
    unfold chkS at h
    split at h
    · rename_i tg v p
      rw [Bool.and_eq_true] at h
      have he := (chkE_ok tok e sc false v h.2 _ X W g.good tk).1
      have h1 := h.1
      cases t with
      | name i =>
        dsimp only at h1
        split at h1
        · rename_i x px
          obtain ⟨k1, k2, k3⟩ := and3 h1
          simp only [ex]
          exact ss_set g.nd (g.good.ix k1) (by rw [g.good.hs]; exact loc_of k2) (hfn g x) he (swNo_ok g.good.hs g.kind k3)
        · cases h1
      | tup ts =>
        dsimp only at h1
        obtain ⟨k1, k2, k3⟩ := and3 h1
        simp only [ex]
        cases tg <;> first
          | exact absurd k1 Bool.false_ne_true
          | exact ss_tup he (chkT_ok _ _ k2 g.good) (by unfold swapsWithSole swapsWith; cases v <;> rfl) (swNone_ok k3) rfl
    · cases h
  | .asgC i own tg it cd elt, st, h, X, W, g, tk => by
    unfold chkS at h
    split at h
    · simp only [Bool.and_eq_true] at h
      obtain ⟨⟨a1, a2⟩, ⟨⟨⟨⟨⟨h1, h2⟩, h3⟩, h4⟩, h5⟩, h6⟩, h7⟩ := h
      unfold swLc at a2
      simp only [Bool.and_eq_true, decide_eq_true_eq, Bool.not_eq_true'] at a2
      obtain ⟨⟨b1, b2⟩, b3⟩ := a2
      simp only [ex, ev]
      have hl := (congrArg (fun z : Scope => z.names.lookup _) g.good.hs).trans b1
      refine PS.w (ss_setLc (G := G) (W := W) (cc := evC T Γ cd) (ce := ev T Γ elt) (t := tg) g.good.calm g.nd (g.good.ix a1) hl (sw_true (by rw [g.good.hs]; exact g.kind) hl b2 b3) (chkI_ok tok it sc _ _ h5 _ X W g.good tk) (g.good.blkOk h1) (fun s H C cl fp => chkT_ok tg _ h2 g.good.blk) (fun s H C cl fp => chkC_ok tok cd _ _ h6 _ _ g.good.blk)
        (fun s H C cl fp => (chkE_ok tok elt _ false _ h7 _ _ W0 g.good.blk takes0).1) (folded_of h4) (fun i hi => by
          have q := List.all_eq_true.mp h3 i hi
          obtain ⟨j, hj, ej⟩ := List.any_eq_true.mp q
          exact (of_decide_eq_true ej) ▸ hj)) fun D σ H hq => nameW hq
    · cases h
  | .par ts es, st, h, X, W, g, tk => by
    unfold chkS at h
    split at h
    · split at h
      · simp only [Bool.and_eq_true] at h
        obtain ⟨⟨⟨⟨h1, h2⟩, h3⟩, h4⟩, h5⟩ := h
        have h4' := h4
        unfold parB at h4'
        simp only [Bool.and_eq_true, decide_eq_true_eq] at h4'
        simp only [ex]
        exact ss_par2 g.good.calm g.nd (g.good.ix h1) (g.good.ix h2) (of_decide_eq_true h3) (by rw [g.good.hs]; exact h4'.1.1.1.1.1.1) (by rw [g.good.hs]; exact h4'.1.1.1.1.1.2) (chkEs_ok tok es sc _ h5 _ X W g.good tk) (par2_ok g.good.hs g.kind h4)
      · cases h
    · split at h
      · simp only [Bool.and_eq_true] at h
        obtain ⟨⟨⟨⟨⟨⟨⟨⟨⟨h1, h2⟩, h3⟩, h4⟩, h5⟩, h6⟩, h7⟩, h8⟩, h9⟩, h10⟩ := h
        have h7' := h7
        unfold parB at h7'
        simp only [Bool.and_eq_true, decide_eq_true_eq] at h7'
        have h8' := h8
        unfold parB at h8'
        simp only [Bool.and_eq_true, decide_eq_true_eq] at h8'
        simp only [ex]
        exact ss_par3 g.good.calm g.nd (g.good.ix h1) (g.good.ix h2) (g.good.ix h3) (of_decide_eq_true h4) (of_decide_eq_true h5) (of_decide_eq_true h6) (by rw [g.good.hs]; exact h7'.1.1.1.1.1.1) (by rw [g.good.hs]; exact h7'.1.1.1.1.1.2) (by rw [g.good.hs]; exact h8'.1.1.1.1.1.2) (chkEs_ok tok es sc _ h10 _ X W g.good tk)
          (par3_ok g.good.hs g.kind h7 h8 (by simpa using h9))
      · cases h
    · cases h
  | .asgI o i e, st, h, X, W, g, tk => by
    unfold chkS at h
    split at h
    · simp only [Bool.and_eq_true] at h
      obtain ⟨⟨⟨h1, h2⟩, h3⟩, h4⟩ := h
      simp only [ex]
      exact ss_asgI (chkE_ok tok e sc false _ h2 _ X W g.good tk).1 (chkE_ok tok o sc false _ h3 _ X W g.good tk).1 (chkE_ok tok i sc false _ h4 _ X W g.good tk).1 h1
    · cases h
  | .aug i op e, st, h, X, W, g, tk => by
    unfold chkS at h
    split at h
    · simp only [Bool.and_eq_true] at h
      obtain ⟨⟨⟨h1, h2⟩, h3⟩, h4⟩ := h
      have h3 := of_decide_eq_true h3
      subst h3
      simp only [ex]
      exact ss_aug g.nd (g.good.ix h1) (by rw [g.good.hs]; exact loc_of h2) (hfn g _) (chkE_ok tok e sc false _ h4 _ X W g.good tk).1
    · cases h
  | .augI o i op e, st, h, X, W, g, tk => by
    unfold chkS at h
    split at h
    · simp only [Bool.and_eq_true] at h
      obtain ⟨⟨⟨⟨h1, h2⟩, h3⟩, h4⟩, h5⟩ := h
      have h2 := of_decide_eq_true h2
      subst h2
      simp only [ex]
      exact ss_augI g.good.hK (chkE_ok tok o sc false _ h3 _ X W g.good tk).1 (chkE_ok tok i sc false _ h4 _ X W g.good tk).1 h1 (chkE_ok tok e sc false _ h5 _ X W g.good tk).1
    · cases h
  | .expr e, st, h, X, W, g, tk => by
    unfold chkS at h
    split at h
    · rw [Bool.and_eq_true] at h
      simp only [ex]
      exact ss_expr (chkE_ok tok e sc false _ h.2 _ X W g.good tk).1 (swaps_of h.1)
    · cases h
  | .ret e, st, h, X, W, g, tk => by
    unfold chkS at h
    split at h
    · simp only [ex]
      exact ss_ret (chkE_ok tok e sc false _ h _ X W g.good tk).1
    · cases h
  | .retN, st, h, X, W, g, tk => by
    unfold chkS at h
    split at h
    · simp only [ex]
      exact ss_retN
    · cases h
  | .ite c a b, st, h, X, W, g, tk => by
    unfold chkS at h
    split at h
    · obtain ⟨h1, h2, h3⟩ := and3 h
      simp only [ex]
      exact ss_if ((chkE_ok tok c sc true _ h1 _ X W g.good tk).2 rfl) (chkSs_ok tok a _ h2 X W g tk) (chkSs_ok tok b _ h3 X W g tk)
    · cases h
  | .forS t it body, st, h, X, W, g, tk => by
    unfold chkS at h
    split at h
    · simp only [Bool.and_eq_true] at h
      obtain ⟨⟨⟨h1, h2⟩, h3⟩, h4⟩ := h
      simp only [ex]
      exact ss_for g.pass g.good.calm (chkI_ok tok it sc _ _ h3 _ X W g.good tk) (chkT_ok t _ h1 g.good) (chkSs_ok tok body _ h4 X W g tk) (folded_of h2)
    · cases h
  | .whileS c body, st, h, X, W, g, tk => by
    unfold chkS at h
    split at h
    · rw [Bool.and_eq_true] at h
      simp only [ex]
      exact ss_while g.pass ((chkE_ok tok c sc true _ h.1 _ X W g.good tk).2 rfl) (chkSs_ok tok body _ h.2 X W g tk)
    · cases h
  | .raise c es, st, h, X, W, g, tk => by
    unfold chkS at h
    split at h
    · split at h
      · simp only [Bool.and_eq_true] at h
        obtain ⟨⟨⟨h1, h2⟩, h3⟩, h4⟩ := h
        split at h1
        · rename_i y fs hy
          have h1 := of_decide_eq_true h1
          subst h1
          obtain ⟨d, hd, ed⟩ := List.any_eq_true.mp h2
          have ed := of_decide_eq_true ed
          subst ed
          refine (ss_raise0 tok g.good.hK g.good.hmg g.good.calm tk hy hd (g.good.gl h3) h4).w fun D σ H hq => ?_
          simp only [ex, evs] at hq
          exact hq
        · cases h1
      · cases h
    · cases h
  | .tryS body hs, st, h, X, W, g, tk => by
    unfold chkS at h
    split at h
    · rw [Bool.and_eq_true] at h
      obtain ⟨l, hl, hw⟩ := chkHs_ok tok g.good hs _ h.2
      refine (ps_try_many (tb := fun W' => LS G W' (exs T Γ body)) g.stk g.frm tk (fun W' pn xe tk' pass => chkSs_ok tok body _ h.1 (X.tr pn xe) W' (g.tr pass) tk') hl).w fun D σ H hq => ?_
      obtain ⟨M, ι, sp, m, s, post⟩ := hq
      refine ⟨M, ι, sp, m, s, ?_⟩
      simp only [ex] at post
      cases er : exs T Γ body sp M with
      | exc x sp1 M1 =>
        rw [er] at post
        exact fun ι' H' σ' cv d a b c f => hw W D x M1 ι' H' sp1 σ' cv d a c f (PostS.from (r := runH T.exm x sp1 M1 hs) post b)
      | nx sp1 M1 => rw [er] at post; exact post
      | ret p M1 => rw [er] at post; exact post
      | brk sp1 M1 => rw [er] at post; exact post
      | cnt sp1 M1 => rw [er] at post; exact post
      | bad => rw [er] at post; exact post
    · cases h
  | .pass, st, h, X, W, g, tk => by
    unfold chkS at h
    split at h
    · simp only [ex]
      exact ss_pass
    · cases h
  | .brk, st, h, X, W, g, tk => by
    unfold chkS at h
    split at h
    · simp only [ex]
      exact ss_brk
    · cases h
  | .cnt, st, h, X, W, g, tk => by
    unfold chkS at h
    split at h
    · simp only [ex]
      exact ss_cnt
    · cases h
theorem chkSs_ok (tok : TabOk T G) : ∀ (c : CSs) (st : List PySem.Stmt), chkSs T N sc c st = true → ∀ (X : Cx) (W : WX), GoodS G Γ N sc X → Takes X W → PSs X st (LS G W (exs T Γ c))
  | .nil, st, h, X, W, g, tk => by
    unfold chkSs at h
    have e : st = [] := by simpa using h
    subst e
    simp only [exs]
    exact ss_nil
  | .cons c r, st, h, X, W, g, tk => by
    unfold chkSs at h
    split at h
    · rw [Bool.and_eq_true] at h
      simp only [exs]
      exact ss_cons (chkS_ok tok c _ h.1 X W g tk) (chkSs_ok tok r _ h.2 X W g tk)
    · cases h
end
end
end DI
set_option maxHeartbeats 8000000
/-! # DI: defs -/
namespace DI
open PySem PySem.Spec L2

/-! ### what nobody names is let go -/
section
variable {G : Gd} {ι : List Addr} {H : Hp} {O O' : Addr → Prop} {n : Nat}
mutual
theorem Rp.gc (ho : ∀ a, O' a → O a) : ∀ (p : PV) (v : V), Rp G ι H O p v → okRef n p = true → Rp G (ι.take n) H O' p v
  | .non, _, h, _ => by cases h; exact .non
  | .bl b, _, h, _ => by cases h; exact .bl b
  | .int i, _, h, _ => by cases h; exact .int i
  | .str s, _, h, _ => by cases h; exact .str s
  | .tup ps, _, h, k => by
    cases h with
    | tup h1 h2 h3 => exact .tup (h1.elim (fun z => .inl ⟨z.1, fun q => z.2 (ho _ q)⟩) .inr) h2 (Rps.gc ho ps _ h3 (by simpa only [okRef] using k))
  | .lst ps, _, h, k => by
    cases h with
    | lst h1 h2 h3 => exact .lst ⟨h1.1, fun q => h1.2 (ho _ q)⟩ h2 (Rps.gc ho ps _ h3 (by simpa only [okRef] using k))
  | .ref m, _, h, k => by
    cases h with
    | ref h1 =>
      have hm : m < n := by simpa [okRef] using k
      exact .ref (by rw [List.getElem?_take_of_lt hm]; exact h1)
  | .fn f, _, h, _ => by
    cases h with
    | fn h1 h2 => exact .fn h1 h2
  | .ty m, _, h, _ => by cases h; exact .ty m
  | .scr ns, _, h, _ => by
    cases h with
    | scr h0 h1 => exact .scr h0 (h1.elim .inl fun z => .inr ⟨z.1, z.2.1, fun q => z.2.2 (ho _ q)⟩)
theorem Rps.gc (ho : ∀ a, O' a → O a) : ∀ (ps : List PV) (vs : List V), Rps G ι H O ps vs → okRefs n ps = true → Rps G (ι.take n) H O' ps vs
  | [], _, h, _ => by cases h; exact .nil
  | p :: ps, _, h, k => by
    cases h with
    | cons h1 h2 =>
      simp only [okRefs, Bool.and_eq_true] at k
      exact .cons (Rp.gc ho p _ h1 k.1) (Rps.gc ho ps _ h2 k.2)
end
theorem own_take {M : Store} {a : Addr} (h : Own (M.take n) (ι.take n) a) : Own M ι a := by
  obtain ⟨k, o, h1, h2⟩ := h
  have hk : k < n := by
    have := (List.getElem?_eq_some_iff.mp h1).1
    simp at this
    omega
  rw [List.getElem?_take_of_lt hk] at h1 h2
  exact ⟨k, o, h1, h2⟩
theorem MRel.gc {M : Store} (m : MRel G M ι H) (hok : (M.take n).all (okObj n) = true) : MRel G (M.take n) (ι.take n) H := by
  have key : ∀ {k : Nat} {o : SObj}, (M.take n)[k]? = some (some o) → k < n ∧ M[k]? = some (some o) := fun {k o} h => by
    have hk : k < n := by
      have := (List.getElem?_eq_some_iff.mp h).1
      simp at this
      omega
    rw [List.getElem?_take_of_lt hk] at h
    exact ⟨hk, h⟩
  refine ⟨m.sa, by simp [m.len], fun i j o o' a h1 h2 h3 h4 => ?_, fun i o h => ?_⟩
  · obtain ⟨k1, h1⟩ := key h1
    obtain ⟨k2, h2⟩ := key h2
    rw [List.getElem?_take_of_lt k1] at h3
    rw [List.getElem?_take_of_lt k2] at h4
    exact m.inj i j o o' a h1 h2 h3 h4
  · have hm : some o ∈ M.take n := List.mem_of_getElem? h
    have ok := List.all_eq_true.mp hok _ hm
    obtain ⟨k1, h⟩ := key h
    obtain ⟨a, h1, h2⟩ := m.obj i o h
    refine ⟨a, by rw [List.getElem?_take_of_lt k1]; exact h1, ?_⟩
    cases o with
    | lst ps =>
      obtain ⟨vs, q1, q2, q3⟩ := h2
      exact ⟨vs, q1, q2, Rps.gc (fun _ z => own_take z) ps _ q3 (by simpa only [okObj] using ok)⟩
    | ins c fs =>
      obtain ⟨nm, fn, C, dx, fvs, q1, q2, q3, q4, q5, q6, q7⟩ := h2
      refine ⟨nm, fn, C, dx, fvs, q1, q2, q3, q4, q5, q6, fun i f p z1 z2 => ?_⟩
      obtain ⟨v, z3, z4⟩ := q7 i f p z1 z2
      have := List.all_eq_true.mp (by simpa only [okObj] using ok) _ (List.mem_of_getElem? z2)
      exact ⟨v, z3, Rp.gc (fun _ z => own_take z) p _ z4 this⟩
theorem Ext.gc {M M' : Store} {ι' : List Addr} {H' : Hp} (hl : ι.length = n) (e : Ext M ι H M' ι' H') : Ext M ι H (M'.take n) (ι'.take n) H' :=
  ⟨fun k a h => by
    have hk : k < n := by rw [← hl]; exact (List.getElem?_eq_some_iff.mp h).1
    rw [List.getElem?_take_of_lt hk]
    exact e.pre k a h, fun a o h z => ⟨(e.keep a o h z).1, fun q => (e.keep a o h z).2 (own_take q)⟩⟩
end
theorem gc_ok {G : Gd} {M M' : Store} {ι ι' : List Addr} {H H' : Hp} {ps : List PV} {vs : List V} (m : MRel G M ι H) (m' : MRel G M' ι' H') (e : Ext M ι H M' ι' H') (r : Rps G ι' H' (Own M' ι') ps vs) :
    ∃ ι'', MRel G (gcM M.length M' ps) ι'' H' ∧ Ext M ι H (gcM M.length M' ps) ι'' H' ∧ Rps G ι'' H' (Own (gcM M.length M' ps) ι'') ps vs := by
  unfold gcM
  split
  · exact ⟨ι', m', e, r⟩
  · split
    · rename_i h
      rw [Bool.and_eq_true] at h
      exact ⟨ι'.take M.length, m'.gc h.2, e.gc m.len, Rps.gc (fun _ z => own_take z) ps vs r h.1⟩
    · exact ⟨ι', m', e, r⟩
theorem Rps.ofFs {G : Gd} {ι : List Addr} {H : Hp} {O : Addr → Prop} : ∀ {ps : List PV}, (∀ (i : Nat) (p : PV), ps[i]? = some p → ∃ v, Rp G ι H O p v) → ∃ vs, Rps G ι H O ps vs
  | [], _ => ⟨[], .nil⟩
  | p :: ps, h => by
    obtain ⟨v, hv⟩ := h 0 p rfl
    obtain ⟨vs, hvs⟩ := @Rps.ofFs G ι H O ps fun i q hq => h (i + 1) q (by simpa using hq)
    exact ⟨v :: vs, .cons hv hvs⟩
theorem gc_exc {G : Gd} {M M' : Store} {ι ι' : List Addr} {H H' : Hp} {x : Exc} {cv : Value} {d : Option Addr} (m : MRel G M ι H) (m' : MRel G M' ι' H') (e : Ext M ι H M' ι' H') (r : XRep G ι' H' (Own M' ι') x cv d) :
    ∃ ι'', MRel G (gcM M.length M' x.fs) ι'' H' ∧ Ext M ι H (gcM M.length M' x.fs) ι'' H' ∧ XRep G ι'' H' (Own (gcM M.length M' x.fs) ι'') x cv d := by
  obtain ⟨nm, fn, C, r1, r2, r3, r4⟩ := r
  unfold gcM
  split
  · exact ⟨ι', m', e, nm, fn, C, r1, r2, r3, r4⟩
  · split
    · rename_i h
      rw [Bool.and_eq_true] at h
      refine ⟨ι'.take M.length, m'.gc h.2, e.gc m.len, nm, fn, C, r1, r2, r3, fun i p hp => ?_⟩
      obtain ⟨f, dd, fvs, v, q1, q2, q3, q4, q5⟩ := r4 i p hp
      have hok : ∀ {ps : List PV} {n i : Nat} {p : PV}, okRefs n ps = true → ps[i]? = some p → okRef n p = true := fun {ps n i p} => by
        induction ps generalizing i with
        | nil => intro _ z; simp at z
        | cons a ps ih =>
          intro hh z
          simp only [okRefs, Bool.and_eq_true] at hh
          cases i with
          | zero => simp at z; subst z; exact hh.1
          | succ i => exact ih hh.2 (by simpa using z)
      exact ⟨f, dd, fvs, v, q1, q2, q3, q4, Rp.gc (fun _ z => own_take z) p v q5 (hok h.1 hp)⟩
    · exact ⟨ι', m', e, nm, fn, C, r1, r2, r3, r4⟩

/-! ### a def of the text -/
def dArgs (s : PySem.Stmt) : Arguments := match s with
  | .FunctionDef _ a _ _ _ _ _ _ _ _ => a
  | _ => { posonlyargs := [], args := [], vararg := none, kwonlyargs := [], kw_defaults := [], kwarg := none, defaults := [] }
def dBody (s : PySem.Stmt) : List PySem.Stmt := match s with
  | .FunctionDef _ _ b _ _ _ _ _ _ _ => b
  | _ => []
def dScope (s : PySem.Stmt) : Scope := match s with
  | .FunctionDef _ _ _ _ _ _ sc _ _ _ => sc
  | _ => { kind := .function, names := [], isGenerator := false, isCoroutine := false }
structure DDef (K : PySem.W.Frag) (mg : Str → Option Value) (x : Str) (st : PySem.Stmt) (f : Addr) : Prop where
  ex : ∃ (oc : Value) (od : Option Addr) (kV doc pm : Value) (an : Option Addr) (cdv ct : Value) (osl : Array (Option Value)),
    K.lookup f = some ⟨oc, od, .func (PySem.W.fnOf x x (dArgs st) (dBody st) (dScope st) .none kV doc pm an cdv ct), osl⟩ ∧ PySem.W.codeIn K cdv x = true
  mgf : mg x = some (.ref f)
  kp : PySem.W.keepIn K (.ref f) = true
def DBinds (x : Str) (st : PySem.Stmt) (ps : List Str) : Prop :=
  ∀ (kV doc pm : Value) (an : Option Addr) (cdv ct : Value) (us : List Value), us.length = ps.length → bindArgs (PySem.W.fnOf x x (dArgs st) (dBody st) (dScope st) .none kV doc pm an cdv ct) ⟨us, []⟩ = pure (ps.zip us)
def scB (N P : List Str) (sc : Scope) : Bool :=
  decide (sc.kind = .function) && !sc.isCoroutine && !sc.isGenerator && decide N.Nodup && decide (N.take P.length = P) && P.all (fun x => decide (sc.names.lookup x = some .local) || decide (sc.names.lookup x = some .cell)) && sc.names.all (fun y => !decide (y.2 = .free))
theorem scB_ok {N P : List Str} {sc : Scope} (h : scB N P sc = true) : FnScope N P sc := by
  unfold scB at h
  simp only [Bool.and_eq_true, Bool.not_eq_true', decide_eq_true_eq, List.all_eq_true, Bool.or_eq_true, decide_eq_false_iff_not] at h
  obtain ⟨⟨⟨⟨⟨⟨h1, h2⟩, h3⟩, h4⟩, h5⟩, h6⟩, h7⟩ := h
  exact ⟨h1, h2, h3, h4, h5, h6, h7⟩
theorem srep_start {G : Gd} {M : Store} {ι : List Addr} {H : Hp} {ps : List PV} {vs : List V} {N : List Str} (r : Rps G ι H (Own M ι) ps vs) : SRep G M ι H (ps.map some ++ List.replicate (N.length - ps.length) none) (L2.start N vs) := by
  have hl := r.length
  unfold L2.start
  refine ⟨by simp [hl], fun i p h => ?_⟩
  by_cases hi : i < ps.length
  · rw [List.getElem?_append_left (by simpa using hi), List.getElem?_map] at h
    cases e : ps[i]? with
    | none => rw [e] at h; cases h
    | some q =>
      rw [e] at h
      have h : q = p := by simpa using h
      subst h
      obtain ⟨v, h1, h2⟩ := r.get e
      exact ⟨v, by rw [List.getElem?_append_left (by simp; omega), List.getElem?_map, h1]; rfl, h2⟩
  · rw [List.getElem?_append_right (by simpa using hi)] at h
    rw [List.getElem?_replicate] at h
    split at h <;> cases h
section
variable {T : Tab} {G : Gd} {Γ : Fns} {P : Program} {w : World} {base : Heap}
theorem fnD_of (tok : TabOk T G) {k : Nat} {f : Addr} {x : Str} {st : PySem.Stmt} {ps : List Str} (c : FnC) (F : DDef G.K G.mg x st f) (S : FnScope c.names ps (dScope st)) (har : ps.length = c.ar) (hb : DBinds x st ps)
    (hc : chkSs T c.names (dScope st) c.body (dBody st) = true)
    (hF : ∀ (f : Nat) (x : Str) (a : Addr), G.fnm f = some x → G.mg x = some (.ref a) → FnD P w G.K G.mg base k a (spD G (Γ f))) :
    FnD P w G.K G.mg base (k + 1) f (spD G (runF T Γ c)) := by
  obtain ⟨oc, od, kV, doc, pm, an, cdv, ct, osl, lk, hcd⟩ := F.ex
  refine ⟨F.kp, fun A outer s H us vs Q E hr e0 r hsp => ?_⟩
  obtain ⟨M, ι, pvs, m, rps, post⟩ := hsp
  unfold runF at post
  by_cases hlen : pvs.length = c.ar
  case neg => rw [if_neg hlen] at post; exact post.elim
  rw [if_pos hlen] at post
  have l1 := rps.length
  have l2 := r.length
  have hl : vs.length = ps.length := by omega
  have KX : G.K.In s.heap := e0.mod.kin.keeps fun b o e => (e0.bs b o e).1
  have lim : s.heap.NoLimit := e0.mod.nolimit.keeps fun b o e => (e0.bs b o e).1
  have hkind : ∀ y ∈ ps.zip us, (dScope st).names.lookup y.1 = some .local ∨ ((dScope st).names.lookup y.1 = some .cell ∧ ((cellsFrom (s.heap.objs.size + 1) (dScope st).names []).lookup y.1).isSome = true) := fun ⟨n, v⟩ hy => by
    rcases S.par n (List.of_mem_zip hy).1 with q | q
    · exact .inl q
    · exact .inr ⟨q, PySem.W.cellsFrom_some _ _ _ (.inl q)⟩
  have hbt : BindsTo s (PySem.W.fnOf x x (dArgs st) (dBody st) (dScope st) .none kV doc pm an cdv ct) ⟨us, []⟩ (ps.zip us) := .of_eq (hb kV doc pm an cdv ct us (by omega))
  refine codeAny_call_function hr.room.depth (KX _ _ lk) rfl S.co S.gen rfl (PySem.W.codeRec_of KX hcd) (hbt _ _ _ _ ?_)
  refine wpAny_newFunctionEnv_cells S.kind hkind fun env he s1 xx => ?_
  subst he
  refine ⟨lim.keeps xx.toInCall.keep, codeAny_func ?_⟩
  have hroom := hr.deeper (PyProof.Rows.envOfC x (dScope st) s.heap.objs.size f cdv)
  have I : Inv (cxOf (L2.CX P w) P w G.K G.mg base c.names x (dScope st) f cdv A outer s H E) [] (L2.start c.names vs) H s1 := inv_start S hr.room.hd e0 hl r xx
  have tk : Takes (cxOf (L2.CX P w) P w G.K G.mg base c.names x (dScope st) f cdv A outer s H E) (fun cls d _ H => E cls d H) := takes_of rfl rfl rfl rfl
  have gs : GoodS G Γ c.names (dScope st) (cxOf (L2.CX P w) P w G.K G.mg base c.names x (dScope st) f cdv A outer s H E) :=
    ⟨⟨rfl, rfl, rfl, S.nd, rfl, rfl, hroom.g, by have := hroom.room.un; show (A.deeper _).units + 66 < cLine; omega, fun _ _ => rfl, k, hroom, hF⟩, passes_of rfl, rfl, rfl, S.kind⟩
  have body := chkSs_ok tok c.body (dBody st) hc _ _ gs tk
  have fin : ∀ {s' : Shared} {σ' : St} {H' : Hp} {v : V} {u : Value}, Inv (cxOf (L2.CX P w) P w G.K G.mg base c.names x (dScope st) f cdv A outer s H E) [] σ' H' s' → RelV v u → Q v H' → L2.CE outer P w H s Q u s' :=
    fun {s' σ' H' v u} J rv q => ⟨v, H', J.os, J.bare, J.base, J.hok, rv, q⟩
  have sr := srep_start (N := c.names) rps
  rw [hlen] at sr
  refine wpAny_mono (body.run [] s1 (L2.start c.names vs) H { nx := fun _ H' => Q .non H', rt := Q } I ⟨M, ι, _, m, sr, ?_⟩) (fun fl s' hs => ?_) fun e s' hs => hs
  · cases er : exs T Γ c.body (pvs.map some ++ List.replicate (c.names.length - c.ar) none) M with
    | nx sp' M' =>
      rw [er] at post
      intro ι' H' σ' m' e' _
      obtain ⟨ι'', g1, g2, _⟩ := gc_ok (ps := []) (vs := []) m m' e' .nil
      exact post ι'' H' .non g1 g2 .non
    | ret p M' =>
      rw [er] at post
      intro ι' H' v m' e' rp
      obtain ⟨ι'', g1, g2, g3⟩ := gc_ok (ps := [p]) (vs := [v]) m m' e' (.cons rp .nil)
      cases g3 with
      | cons g3 _ => exact post ι'' H' v g1 g2 g3
    | exc x0 sp' M' =>
      rw [er] at post
      intro ι' H' σ' cv d m' e' _ rx
      obtain ⟨ι'', g1, g2, g3⟩ := gc_exc m m' e' rx
      exact post ι'' H' cv d g1 g2 g3
    | brk sp' M' => rw [er] at post; exact post.elim
    | cnt sp' M' => rw [er] at post; exact post.elim
    | bad => rw [er] at post; exact post.elim
  · cases fl with
    | ret u =>
      obtain ⟨v, σ', H', J, rv, q⟩ := hs
      exact fin J rv q
    | next =>
      obtain ⟨σ', H', J, q⟩ := hs
      exact fin (v := V.non) (u := Value.none) J rfl q
    | brk =>
      obtain ⟨_, _, _, q⟩ := hs
      exact False.elim q
    | cont =>
      obtain ⟨_, _, _, q⟩ := hs
      exact False.elim q
/-- the defs of the table -/
structure DefsOk (T : Tab) (G : Gd) (codes : Nat → Option FnC) : Prop where
  df : ∀ (f : Nat) (x : Str) (a : Addr), G.fnm f = some x → G.mg x = some (.ref a) → PySem.W.keepIn G.K (.ref a) = true ∧
    ∀ c, codes f = some c → ∃ (st : PySem.Stmt) (ps : List Str), DDef G.K G.mg x st a ∧ FnScope c.names ps (dScope st) ∧ ps.length = c.ar ∧ DBinds x st ps ∧ chkSs T c.names (dScope st) c.body (dBody st) = true
theorem fnD_all (tok : TabOk T G) {codes : Nat → Option FnC} (dok : DefsOk T G codes) : ∀ (k : Nat) (f : Nat) (x : Str) (a : Addr), G.fnm f = some x → G.mg x = some (.ref a) → FnD P w G.K G.mg base k a (spD G (Fn T codes k f))
  | 0, f, x, a, h1, h2 => ⟨(dok.df f x a h1 h2).1, fun A outer s H us vs Q E hr e0 r hsp => by
    obtain ⟨M, ι, pvs, m, rps, post⟩ := hsp
    exact post.elim⟩
  | k + 1, f, x, a, h1, h2 => by
    obtain ⟨kp, hd⟩ := dok.df f x a h1 h2
    cases e : codes f with
    | none =>
      refine ⟨kp, fun A outer s H us vs Q E hr e0 r hsp => ?_⟩
      obtain ⟨M, ι, pvs, m, rps, post⟩ := hsp
      simp only [Fn, e] at post
      exact post.elim
    | some c =>
      obtain ⟨st, ps, F, S, har, hb, hc⟩ := hd c e
      have hh := fnD_of (P := P) (w := w) (base := base) tok c F S har hb hc (fun f x a h1 h2 => fnD_all tok dok k f x a h1 h2)
      have e2 : Fn T codes (k + 1) f = runF T (Fn T codes k) c := by
        funext ps M
        simp only [Fn, e]
      rw [e2]
      exact hh
end
end DI
set_option maxHeartbeats 8000000
/-! # DI: the end -/
namespace DI
open PySem PySem.Spec L2

def mkG (T : Tab) (K : PySem.W.Frag) (mg : Str → Option Value) (sa : Addr) (sw : Bool) : Gd := ⟨K, mg, fun f => T.fnm[f]?, fun c => T.cnm[c]?, sa, sw⟩
/-- the law's call at the heap behind the top -/
theorem law_callD {P : Program} {w : World} {T : Tab} {K : PySem.W.Frag} {mg mb : Str → Option Value} {k : Nat} {fa a : Addr} {g : List PV → Store → Res PV} {s₁ : Shared} {vs : List Value} {ns : List Int}
    (KX : K.In s₁.heap) (hns : s₁.heap.Ns mainGlobals mg) (hb : s₁.heap.Ns builtinsNs mb) (hbb : ∀ x : Str, x ≠ "__name__" → mb x = bootBuiltins x) (hlim : s₁.heap.NoLimit) (hg : s₁.gens = #[])
    (ha : s₁.heap.get? a = some { cls := .type "list", data := .seq vs.toArray }) (hi : PyProof.Rows.IntsAre vs ns) (hl : ns.length ≤ sizeLine) (hr : RoomG k callerA)
    (F : ∀ (sw : Bool) (base : Heap), FnD P w K mg base k fa (spD (mkG T K mg a sw) g)) {M0 : Store} (hlaw : g [.scr ns] [] = .ok (.bl true) M0) :
    codeAny (model P w) callerA (.call (.ref fa) ⟨[.ref a], []⟩) (fun r s' => r = .ok (.ret (.bool true)) ∧ OldK s₁.heap s'.heap ∧ s'.os = s₁.os ∧ PyProof.Rows.AllBare s'.gens) s₁ := by
  have rv := vals_ints hi
  have lenV := hi.length
  have core : ∀ (sw : Bool) (H : Hp), (∀ b, H b = none ∨ ∃ o xs, H b = some (.frz o (.lst xs))) → FxS sw K (fun _ => False) H a (ns.map V.int) → (sw = false → H a ≠ none) → HOk P w H s₁.heap → (∀ b, H b ≠ none → b = a) → (H a ≠ none → K.lookup a = none) →
      codeAny (model P w) callerA (.call (.ref fa) ⟨[.ref a], []⟩) (fun r s' => r = .ok (.ret (.bool true)) ∧ OldK s₁.heap s'.heap ∧ s'.os = s₁.os ∧ PyProof.Rows.AllBare s'.gens) s₁ := by
    intro sw H hO hS hsa hok hA hK
    have noA : ∀ {b : Addr} {o : Obj} {es : Array DictEntry} {ep : Nat}, s₁.heap.get? b = some o → o.data = .dict es ep → H b = none := fun {b o es ep} e d => by
      rcases hO b with z | ⟨ob, xs, z⟩
      · exact z
      · have e' : b = a := hA b (by rw [z]; exact nofun)
        subst e'
        rw [ha] at e
        cases e
        have d' : Data.seq vs.toArray _ = Data.dict es ep := d
        cases d'
    have nsK : ∀ {b : Addr} {m : Str → Option Value}, s₁.heap.Ns b m → (hidT s₁.heap H).Ns b m := fun {b m} ⟨o, es, ep, e, d, r⟩ => ⟨o, es, ep, hidT_get e (noA e d), d, r⟩
    have hKb : K.In (hidT s₁.heap H) := fun b o e => hidT_get (KX b o e) (by
      rcases hO b with z | ⟨ob, xs, z⟩
      · exact z
      · have e' : b = a := hA b (by rw [z]; exact nofun)
        subst e'
        rw [hK (by rw [z]; exact nofun)] at e
        cases e)
    have hM : Mod K mg (hidT s₁.heap H) := ⟨hKb, nsK hns, ⟨mb, nsK hb, hbb⟩, let ⟨mc, h1, h2⟩ := hlim; ⟨mc, nsK h1, h2⟩⟩
    have e0 : Env0 P w K mg (hidT s₁.heap H) callerA [] s₁ H := ⟨rfl, hM, fun b o e => of_hidT e, Nat.le_of_eq (hidT_size _ _), trivial, fun b hb => absurd (show b ∈ ([] : List Addr) from hb) (by simp), hok, .of_eq hg⟩
    have hO' : (fun _ => False : Addr → Prop) = Own [] [] := funext fun b => propext ⟨False.elim, fun ⟨n, o, h, _⟩ => by simp at h⟩
    have m0 : MRel (mkG T K mg a sw) [] [] H := ⟨hsa, rfl, fun n _ _ _ _ h => by simp at h, fun n _ h => by simp at h⟩
    have hsp : spD (mkG T K mg a sw) g [.ref a] H (fun v _ => v = .bl true) (fun _ _ _ => False) := by
      refine ⟨[], [], [.scr ns], m0, .cons (.scr rfl (hO' ▸ hS)) .nil, ?_⟩
      rw [hlaw]
      intro ι' H' v _ _ r
      cases r
      rfl
    refine codeAny_mono ((F sw _).run callerA [] s₁ H [.ref a] [.ref a] _ _ hr e0 (.cons rfl .nil) hsp) fun r s' h => ?_
    cases r with
    | error e =>
      obtain ⟨_, _, _, _, _, _, _, _, _, _, _, _, z⟩ := h
      exact z.elim
    | ok fl =>
      cases fl with
      | next => exact False.elim h
      | brk => exact False.elim h
      | cont => exact False.elim h
      | ret u =>
        obtain ⟨v, H', os, bare, un, hok', r', q⟩ := h
        have q' : v = .bl true := q
        subst q'
        obtain rfl : u = Value.bool true := r'
        refine ⟨rfl, OldK.of_keep fun b o e => ?_, os, bare⟩
        rcases hO b with z | ⟨ob, xs, z⟩
        · exact un.keep b o e z (by intro z; exact absurd (show b ∈ ([] : List Addr) from z) (by simp)) (by simp)
        · have z2 := un.frzs b ob _ z
          obtain ⟨e1, _⟩ := hok b _ z
          obtain ⟨e2, _⟩ := hok' b _ z2
          rw [e] at e1
          cases e1
          exact e2
  cases hk : K.lookup a with
  | some o =>
    have e := KX a o hk
    rw [ha] at e
    cases e
    exact core true (fun _ => none) (fun _ => .inl rfl) (.inl ⟨rfl, _, vs.toArray, _, hk, rfl, rfl, rfl, by rw [List.size_toArray, lenV]; exact hl, by simpa using rv⟩) (fun z => nomatch z) (fun b u z => by have z' : (none : Option HO) = some u := z; cases z') (fun b z => absurd rfl z) fun z => absurd rfl z
  | none =>
    refine core false (fun b => if b = a then some (.frz { cls := .type "list", data := .seq vs.toArray } (.lst (ns.map V.int))) else none) (fun b => ?_) (.inr ⟨rfl, .inr ⟨_, if_pos rfl⟩, fun z => z⟩) (fun _ => by rw [if_pos rfl]; exact nofun) (fun b u z => ?_) (fun b z => ?_) fun _ => hk
    · by_cases hb : b = a
      · exact .inr ⟨_, _, if_pos hb⟩
      · exact .inl (if_neg hb)
    · by_cases hb : b = a
      · have z' := (if_pos hb).symm.trans z
        cases z'
        subst hb
        exact ⟨ha, by rw [List.length_map]; exact hl, vs, _, rv, ha⟩
      · have z' := (if_neg hb).symm.trans z
        cases z'
    · by_cases hb : b = a
      · exact hb
      · exact absurd (if_neg hb) z
/-- THE END: what k_head leaves (case hc), from the tables and the law's answer -/
theorem walkDI {l : PySem.W.OpenLaw} {n k : Nat} {q : Program} {loose : List Str} {XP : (Str → Option Value) → Heap → Prop} {YP : World → Heap → Prop} {d : DefRec} {K : Params → PySem.W.Frag} (T : Tab) (codes : Nat → Option FnC) (f0 : Nat)
    (hn : l.most = some n) (hn2 : n ≤ sizeLine) (hdf : d.params.defaults = []) (hr : RoomG k callerA)
    (hf0 : T.fnm[f0]? = some d.name)
    (hlaw : ∀ ns : List Int, ns.length ≤ n → ∃ M, Fn T codes k f0 [.scr ns] [] = .ok (.bl true) M)
    (hY : ∀ (w : World) (h : Heap), YP w h → (K w.params).In h)
    (F : ∀ (w : World) (mg : Str → Option Value) (h : Heap), (K w.params).In h → h.Ns mainGlobals mg → ∀ (sa : Addr) (sw : Bool), TabOk T (mkG T (K w.params) mg sa sw) ∧ DefsOk T (mkG T (K w.params) mg sa sw) codes) :
    PySem.W.WalkO q loose XP YP l.row.toRowW d [] (fun f vs => PySem.call f vs) := by
  refine Att.attach_call hn hdf fun w s₀ s₁ mg mb fa o pm cd doc a vs ns G Y ho hd hcd hmg hobj hints hlen hg => ?_
  have KX := hY w _ Y
  obtain ⟨M0, hM⟩ := hlaw ns hlen
  refine law_callD (T := T) (k := k) KX G.T.g G.T.b G.T.builtins G.T.nolimit hg hobj hints (Nat.le_trans hlen hn2) hr (fun sw base => ?_) hM
  obtain ⟨tok, dok⟩ := F w mg _ KX G.T.g a sw
  exact fnD_all tok dok k f0 d.name fa hf0 hmg
end DI
set_option maxHeartbeats 8000000
/-! # DI: the tables, from what the top has written -/
namespace DI
open PySem PySem.Spec L2

structure DEnt where
  nm : Str
  st : PySem.Stmt
  ps : List Str
  code : FnC
/-- a def stands behind the top -/
def DFact (K : PySem.W.Frag) (x : Str) (st : PySem.Stmt) : Prop :=
  ∃ f, PySem.W.nsIn K mainGlobals x = some (some (.ref f)) ∧ PySem.W.keepIn K (.ref f) = true ∧ ∃ (oc : Value) (od : Option Addr) (kV doc pm : Value) (an : Option Addr) (cdv ct : Value) (osl : Array (Option Value)),
    K.lookup f = some ⟨oc, od, .func (PySem.W.fnOf x x (dArgs st) (dBody st) (dScope st) .none kV doc pm an cdv ct), osl⟩ ∧ PySem.W.codeIn K cdv x = true
theorem dfact {K : PySem.W.Frag} {x : Str} {st : PySem.Stmt} {f : Addr} {oc : Value} {od : Option Addr} {kV doc pm : Value} {an : Option Addr} {cdv ct : Value} {osl : Array (Option Value)}
    (a : PySem.W.nsIn K mainGlobals x = some (some (.ref f))) (l : K.lookup f = some ⟨oc, od, .func (PySem.W.fnOf x x (dArgs st) (dBody st) (dScope st) .none kV doc pm an cdv ct), osl⟩) (c : PySem.W.codeIn K cdv x = true) (k : PySem.W.keepIn K (.ref f) = true) : DFact K x st :=
  ⟨f, a, k, oc, od, kV, doc, pm, an, cdv, ct, osl, l, c⟩

mutual
def cpB (K : PySem.W.Frag) : PV → Value → Bool
  | .int i, v => match v with
    | .int j _ => decide (i = j)
    | _ => false
  | .bl i, v => match v with
    | .bool j => decide (i = j)
    | _ => false
  | .str i, v => match v with
    | .str j _ => decide (i = j)
    | _ => false
  | .non, v => match v with
    | .none => true
    | _ => false
  | .tup ps, v => match v with
    | .ref a => match K.lookup a with
      | some ⟨.type t, _, .seq its _, _⟩ => decide (t = "tuple") && decide (its.size ≤ 64) && cpsB K ps its.toList
      | _ => false
    | _ => false
  | _, _ => false
def cpsB (K : PySem.W.Frag) : List PV → List Value → Bool
  | [], [] => true
  | p :: ps, v :: vs => cpB K p v && cpsB K ps vs
  | _, _ => false
end
mutual
theorem cpB_ok {T : Tab} {K : PySem.W.Frag} {mg : Str → Option Value} {sa : Addr} {sw : Bool} : ∀ (p : PV) (u : Value), cpB K p u = true → ∃ v, RelV v u ∧ ∀ ι H O, Rp (mkG T K mg sa sw) ι H O p v
  | .int i, u, h => by
    unfold cpB at h
    split at h
    · have h := of_decide_eq_true h
      subst h
      exact ⟨.int i, ⟨_, rfl⟩, fun _ _ _ => .int i⟩
    · cases h
  | .bl i, u, h => by
    unfold cpB at h
    split at h
    · have h := of_decide_eq_true h
      subst h
      exact ⟨.bl i, rfl, fun _ _ _ => .bl i⟩
    · cases h
  | .str i, u, h => by
    unfold cpB at h
    split at h
    · have h := of_decide_eq_true h
      subst h
      exact ⟨.str i, ⟨_, rfl⟩, fun _ _ _ => .str i⟩
    · cases h
  | .non, u, h => by
    unfold cpB at h
    split at h
    · exact ⟨.non, rfl, fun _ _ _ => .non⟩
    · cases h
  | .tup ps, u, h => by
    unfold cpB at h
    split at h
    · rename_i a
      split at h
      · rename_i t dd its n sl hl
        simp only [Bool.and_eq_true, decide_eq_true_eq] at h
        obtain ⟨⟨h1, h2⟩, h3⟩ := h
        subst h1
        obtain ⟨vs, r1, r2⟩ := cpsB_ok (T := T) (mg := mg) (sa := sa) (sw := sw) ps its.toList h3
        have hz : its.size ≤ sizeLine := Nat.le_trans h2 (by decide)
        refine ⟨.ref a, rfl, fun ι H O => .tup (.inr ⟨_, its, n, hl, rfl, rfl, hz, r1⟩) ?_ (r2 ι H O)⟩
        have e1 := (r2 ι H O).length
        have e2 := r1.length
        simp only [Array.length_toList] at e2
        omega
      · cases h
    · cases h
  | .lst _, u, h => by unfold cpB at h; cases h
  | .ref _, u, h => by unfold cpB at h; cases h
  | .fn _, u, h => by unfold cpB at h; cases h
  | .ty _, u, h => by unfold cpB at h; cases h
  | .scr _, u, h => by unfold cpB at h; cases h
theorem cpsB_ok {T : Tab} {K : PySem.W.Frag} {mg : Str → Option Value} {sa : Addr} {sw : Bool} : ∀ (ps : List PV) (us : List Value), cpsB K ps us = true → ∃ vs, Vals vs us ∧ ∀ ι H O, Rps (mkG T K mg sa sw) ι H O ps vs
  | [], [], h => ⟨[], .nil, fun _ _ _ => .nil⟩
  | [], _ :: _, h => by unfold cpsB at h; cases h
  | _ :: _, [], h => by unfold cpsB at h; cases h
  | p :: ps, u :: us, h => by
    unfold cpsB at h
    rw [Bool.and_eq_true] at h
    obtain ⟨v, h1, h2⟩ := cpB_ok (T := T) (mg := mg) (sa := sa) (sw := sw) p u h.1
    obtain ⟨vs, h3, h4⟩ := cpsB_ok (T := T) (mg := mg) (sa := sa) (sw := sw) ps us h.2
    exact ⟨v :: vs, .cons h1 h3, fun ι H O => .cons (h2 ι H O) (h4 ι H O)⟩
end
def CFact (K : PySem.W.Frag) (x : Str) (p : PV) : Prop := ∃ u, PySem.W.nsIn K mainGlobals x = some (some u) ∧ cpB K p u = true
/-- a flat tuple -/
def flatB : List PV → List Value → Bool
  | [], [] => true
  | .int i :: ps, .int j _ :: vs => decide (i = j) && flatB ps vs
  | .str i :: ps, .str j _ :: vs => decide (i = j) && flatB ps vs
  | .bl i :: ps, .bool j :: vs => decide (i = j) && flatB ps vs
  | .non :: ps, .none :: vs => flatB ps vs
  | _, _ => false
theorem flatB_ok {K : PySem.W.Frag} : ∀ {ps : List PV} {vs : List Value}, flatB ps vs = true → cpsB K ps vs = true
  | [], [], _ => rfl
  | [], _ :: _, h => by simp [flatB] at h
  | p :: ps, [], h => by cases p <;> simp [flatB] at h
  | p :: ps, v :: vs, h => by
    cases p <;> cases v <;> simp only [flatB, Bool.and_eq_true, decide_eq_true_eq] at h <;> first
      | (obtain ⟨rfl, h⟩ := h; simp [cpsB, cpB, flatB_ok h])
      | simp [cpsB, cpB, flatB_ok h]
      | cases h
theorem cfactA {K : PySem.W.Frag} {x : Str} {p : PV} {u : Value} (a : PySem.W.nsIn K mainGlobals x = some (some u)) (b : flatB [p] [u] = true) : CFact K x p :=
  ⟨u, a, by have := flatB_ok (K := K) b; unfold cpsB at this; rw [Bool.and_eq_true] at this; exact this.1⟩
theorem cfactT {K : PySem.W.Frag} {x : Str} {ps : List PV} {a : Addr} {dd : Option Addr} {its : Array Value} {n : Nat} {sl : Array (Option Value)} (h : PySem.W.nsIn K mainGlobals x = some (some (.ref a))) (l : K.lookup a = some ⟨.type "tuple", dd, .seq its n, sl⟩) (b : (decide (its.size ≤ 64) && flatB ps its.toList) = true) : CFact K x (.tup ps) := by
  rw [Bool.and_eq_true] at b
  refine ⟨_, h, ?_⟩
  unfold cpB
  simp only [l, b.1, flatB_ok b.2, Bool.and_true, decide_true]
theorem cfact {K : PySem.W.Frag} {x : Str} {p : PV} {u : Value} (a : PySem.W.nsIn K mainGlobals x = some (some u)) (b : cpB K p u = true) : CFact K x p := ⟨u, a, b⟩
/-- a name of a built-in, left alone -/
def NFact (K : PySem.W.Frag) (x : Str) : Prop := PySem.W.nsIn K mainGlobals x = some none
/-- a class -/
def KFact (K : PySem.W.Frag) (x : Str) : Prop := ∃ C, PySem.W.nsIn K mainGlobals x = some (some (.ref C))
theorem kfact {K : PySem.W.Frag} {x : Str} {C : Addr} (a : PySem.W.nsIn K mainGlobals x = some (some (.ref C))) : KFact K x := ⟨C, a⟩
/-- an exception class without own __init__ -/
def EFact (K : PySem.W.Frag) (x : Str) : Prop :=
  ∃ C, PySem.W.nsIn K mainGlobals x = some (some (.ref C)) ∧ PySem.W.keepIn K (.ref C) = true ∧ PySem.W.subIn K (.ref C) (.type "BaseException") = some true ∧ PySem.W.typeIn K (.ref C) = some (.type "type") ∧
    ∃ (bmB : List Value) (B newId initId : String), ExcBaseFacts B newId initId bmB ∧ PySem.W.excIn K C bmB newId = true
theorem efactV {K : PySem.W.Frag} {x : Str} {C : Addr} (a : PySem.W.nsIn K mainGlobals x = some (some (.ref C))) (q : PySem.W.excIn K C [.type "ValueError", .type "Exception", .type "BaseException", .type "object"] "ValueError.__new__" = true) (k : PySem.W.keepIn K (.ref C) = true)
    (s : PySem.W.subIn K (.ref C) (.type "BaseException") = some true) (t : PySem.W.typeIn K (.ref C) = some (.type "type")) : EFact K x :=
  ⟨C, a, k, s, t, _, _, _, _, PySem.F.excBase_ValueError, q⟩
/-- a class catches another or not -/
def XFact (K : PySem.W.Frag) (x y : Str) (b : Bool) : Prop := ∃ C D, PySem.W.nsIn K mainGlobals x = some (some (.ref C)) ∧ PySem.W.nsIn K mainGlobals y = some (some (.ref D)) ∧ PySem.W.exmOne K (.ref C) (.ref D) = some b
theorem exm_mk {K : PySem.W.Frag} {R S : Addr} {b : Bool} (h1 : PySem.W.subIn K (.ref S) (.type "BaseException") = some true) (h2 : PySem.W.isClsIn K S = true) (h3 : PySem.W.typeIn K (.ref S) = some (.type "type")) (h4 : PySem.W.subIn K (.ref R) (.ref S) = some b) :
    PySem.W.exmOne K (.ref R) (.ref S) = some b := by
  have e1 : (PySem.W.subIn K (.ref S) (.type "BaseException") == some true) = true := by rw [h1] <;> rfl
  have e2 : ((PySem.W.clsIn K S).isSome && PySem.W.typeIn K (.ref S) == some (.type "type")) = true := by
    have h2' : (PySem.W.clsIn K S).isSome = true := h2
    rw [h2', h3] <;> rfl
  show (if (PySem.W.subIn K (.ref S) (.type "BaseException") == some true) = true then (if ((PySem.W.clsIn K S).isSome && PySem.W.typeIn K (.ref S) == some (.type "type")) = true then PySem.W.subIn K (.ref R) (.ref S) else none) else none) = some b
  rw [if_pos e1, if_pos e2]
  exact h4
theorem xfact {K : PySem.W.Frag} {x y : Str} {b : Bool} {C D : Addr} (a : PySem.W.nsIn K mainGlobals x = some (some (.ref C))) (a' : PySem.W.nsIn K mainGlobals y = some (some (.ref D))) (h1 : PySem.W.subIn K (.ref D) (.type "BaseException") = some true) (h2 : PySem.W.isClsIn K D = true) (h3 : PySem.W.typeIn K (.ref D) = some (.type "type")) (h4 : PySem.W.subIn K (.ref C) (.ref D) = some b) : XFact K x y b := ⟨C, D, a, a', exm_mk h1 h2 h3 h4⟩
/-- all of a list -/
def AllP {α : Type} (P : α → Prop) : List α → Prop
  | [] => True
  | a :: l => P a ∧ AllP P l
theorem AllP.of {α : Type} {P : α → Prop} : ∀ {l : List α}, AllP P l → ∀ a ∈ l, P a
  | [], _, _, h => nomatch h
  | _ :: _, ⟨h1, h2⟩, a, h => (List.mem_cons.mp h).elim (fun e => e ▸ h1) fun h => AllP.of h2 a h
/-- what the top has written, as the tables want it -/
structure TabFacts (T : Tab) (ents : List DEnt) (K : PySem.W.Frag) : Prop where
  df : AllP (fun d : DEnt => DFact K d.nm d.st) ents
  cst : AllP (fun p : Str × PV => CFact K p.1 p.2) T.cst
  free : AllP (fun x : Str => NFact K x) T.free
  cls : AllP (fun p : Str × List Str => KFact K p.1) T.cnm
  ex0 : AllP (fun c : Nat => ∀ p, T.cnm[c]? = some p → EFact K p.1) T.ex0
  exm : AllP (fun z : Nat × Nat × Bool => ∀ p q, T.cnm[z.1]? = some p → T.cnm[z.2.1]? = some q → XFact K p.1 q.1 z.2.2) T.exm
theorem tabOk_of {T : Tab} {ents : List DEnt} {K : PySem.W.Frag} {h : Heap} {mg : Str → Option Value} (hT : T.fnm = ents.map (·.nm)) (F : TabFacts T ents K) (KX : K.In h) (hg : h.Ns mainGlobals mg) (sa : Addr) (sw : Bool) : TabOk T (mkG T K mg sa sw) where
  cst := fun k x p e => by
    obtain ⟨u, h1, h2⟩ := F.cst.of (x, p) (List.mem_of_getElem? e)
    obtain ⟨v, h3, h4⟩ := cpB_ok (T := T) (mg := mg) (sa := sa) (sw := sw) p u h2
    exact ⟨u, v, PySem.W.mg_of KX hg h1, h3, h4⟩
  fnm := fun f x e => by
    have hm : x ∈ T.fnm := List.mem_of_getElem? e
    rw [hT] at hm
    obtain ⟨d, hd, rfl⟩ := List.mem_map.mp hm
    obtain ⟨a, h1, _⟩ := F.df.of d hd
    exact ⟨e, a, PySem.W.mg_of KX hg h1⟩
  cnm := fun c x fs e => by
    obtain ⟨C, h1⟩ := F.cls.of (x, fs) (List.mem_of_getElem? e)
    exact ⟨e, C, PySem.W.mg_of KX hg h1⟩
  free := fun x hx => PySem.W.mg_none_of KX hg (F.free.of x hx)
  ex0 := fun c hc x fs e => by
    obtain ⟨C, h1, h2, h3, h4, bmB, B, newId, initId, h5, h6⟩ := F.ex0.of c hc (x, fs) e
    exact ⟨C, bmB, B, newId, initId, h5, h6, PySem.W.mg_of KX hg h1, h2, h3, h4⟩
  exm := fun c d b hm x y fs gs C D e1 e2 e3 e4 => by
    obtain ⟨C', D', h1, h2, h3⟩ := F.exm.of (c, d, b) hm (x, fs) (y, gs) e1 e2
    have h1 := PySem.W.mg_of KX hg h1
    have h2 := PySem.W.mg_of KX hg h2
    have e3 : mg x = some (.ref C) := e3
    have e4 : mg y = some (.ref D) := e4
    rw [h1] at e3
    rw [h2] at e4
    cases e3
    cases e4
    exact h3
def chkEnt (T : Tab) (d : DEnt) : Bool := scB d.code.names d.ps (dScope d.st) && decide (d.ps.length = d.code.ar) && chkSs T d.code.names (dScope d.st) d.code.body (dBody d.st)
def codesOf (ents : List DEnt) : Nat → Option FnC := fun f => (ents[f]?).map (·.code)
theorem defsOk_of {T : Tab} {ents : List DEnt} {K : PySem.W.Frag} {h : Heap} {mg : Str → Option Value} (hT : T.fnm = ents.map (·.nm)) (F : TabFacts T ents K) (hb : AllP (fun d : DEnt => DBinds d.nm d.st d.ps) ents) (hc : AllP (fun d : DEnt => chkEnt T d = true) ents) (KX : K.In h) (hg : h.Ns mainGlobals mg) (sa : Addr) (sw : Bool) :
    DefsOk T (mkG T K mg sa sw) (codesOf ents) where
  df := fun f x a e1 e2 => by
    have e1 : T.fnm[f]? = some x := e1
    rw [hT, List.getElem?_map] at e1
    cases e : ents[f]? with
    | none => rw [e] at e1; cases e1
    | some d =>
      rw [e] at e1
      have e1 : d.nm = x := by simpa using e1
      subst e1
      have hm := List.mem_of_getElem? e
      obtain ⟨a', h1, h2, oc, od, kV, doc, pm, an, cdv, ct, osl, h3, h4⟩ := F.df.of d hm
      have h1 := PySem.W.mg_of KX hg h1
      have e2 : mg d.nm = some (.ref a) := e2
      rw [h1] at e2
      cases e2
      refine ⟨h2, fun c hc' => ?_⟩
      have hc' : d.code = c := by unfold codesOf at hc'; rw [e] at hc'; simpa using hc'
      subst hc'
      have q := hc.of d hm
      unfold chkEnt at q
      simp only [Bool.and_eq_true, decide_eq_true_eq] at q
      exact ⟨d.st, d.ps, ⟨⟨oc, od, kV, doc, pm, an, cdv, ct, osl, h3, h4⟩, h1, h2⟩, scB_ok q.1.1, q.1.2, hb.of d hm, q.2⟩
end DI
set_option maxHeartbeats 4000000
/-! # DI: how to reckon with the evaluator -/
namespace DI
open PySem

section
variable {α β : Type} {a : α} {M : Store} {x : Exc} {k : α → Store → Res β} {kk : α → Store → SRes} {sp : Sl}
@[simp] theorem bind_ok : (Res.ok a M).bind k = k a M := rfl
@[simp] theorem bind_exc : (Res.exc x M : Res α).bind k = .exc x M := rfl
@[simp] theorem bind_bad : (Res.bad : Res α).bind k = .bad := rfl
@[simp] theorem ofR_ok : SRes.ofR (.ok a M) sp kk = kk a M := rfl
@[simp] theorem ofR_exc : SRes.ofR (.exc x M : Res α) sp kk = .exc x sp M := rfl
@[simp] theorem ofR_bad : SRes.ofR (.bad : Res α) sp kk = .bad := rfl
@[simp] theorem ofO_some : Res.ofO (some a) M = .ok a M := rfl
@[simp] theorem ofO_none : (Res.ofO (none : Option α) M) = .bad := rfl
@[simp] theorem seq_nx {k : Ex} : (SRes.nx sp M).seq k = k sp M := rfl
@[simp] theorem seq_ret {k : Ex} {p : PV} : (SRes.ret p M).seq k = .ret p M := rfl
@[simp] theorem seq_brk {k : Ex} : (SRes.brk sp M).seq k = .brk sp M := rfl
@[simp] theorem seq_cnt {k : Ex} : (SRes.cnt sp M).seq k = .cnt sp M := rfl
@[simp] theorem seq_exc {k : Ex} : (SRes.exc x sp M).seq k = .exc x sp M := rfl
@[simp] theorem seq_bad {k : Ex} : SRes.bad.seq k = .bad := rfl
@[simp] theorem evTr_bl {b : Bool} : evTr (.ok (.bl b) M) = .ok b M := rfl
@[simp] theorem evTr_exc : evTr (.exc x M) = .exc x M := rfl
@[simp] theorem evTr_bad : evTr .bad = .bad := rfl
end
section
variable {k : Store → Res PV} {M : Store}
@[simp] theorem andK_t : andK k (.bl true) M = k M := rfl
@[simp] theorem andK_f : andK k (.bl false) M = .ok (.bl false) M := rfl
@[simp] theorem orK_t : orK k (.bl true) M = .ok (.bl true) M := rfl
@[simp] theorem orK_f : orK k (.bl false) M = k M := rfl
theorem andK_bl {b c : Bool} {M' : Store} (h : b = true → k M = .ok (.bl c) M) : andK k (.bl b) M = .ok (.bl (b && c)) M := by
  cases b with
  | true => rw [andK_t, h rfl]; rfl
  | false => rfl
theorem orK_bl {b c : Bool} {M' : Store} (h : b = false → k M = .ok (.bl c) M) : orK k (.bl b) M = .ok (.bl (b || c)) M := by
  cases b with
  | true => rfl
  | false => rw [orK_f, h rfl]; rfl
end
/-! ### what a def lets go -/
theorem gcM_le {n : Nat} {M : Store} {ps : List PV} (h : M.length ≤ n) : gcM n M ps = M := if_pos h
@[simp] theorem gcM_self {M : Store} {ps : List PV} : gcM M.length M ps = M := gcM_le (Nat.le_refl _)
@[simp] theorem gcM_set {M : Store} {ps : List PV} {i : Nat} {o : Option SObj} : gcM M.length (M.set i o) ps = M.set i o := gcM_le (by simp)
/-- every object names only what stands -/
def okS (M : Store) : Prop := M.all (okObj M.length) = true
theorem gcM_app {M L : Store} {ps : List PV} (hM : okS M) (h : okRefs M.length ps = true) : gcM M.length (M ++ L) ps = M := by
  unfold gcM
  by_cases hl : (M ++ L).length ≤ M.length
  · have : L = [] := by
      have : L.length = 0 := by simp at hl; omega
      exact List.eq_nil_of_length_eq_zero this
    rw [if_pos hl, this, List.append_nil]
  · rw [if_neg hl, List.take_left', if_pos (by rw [h, hM]; rfl)]
    rfl
theorem okS_nil : okS [] := rfl
/-! ### the store -/
theorem lstAt_of {M : Store} {n : Nat} {xs : List PV} (h : M[n]? = some (some (.lst xs))) : lstAt M n = some xs := by
  unfold lstAt; rw [h]
theorem lstAt_set {M : Store} {n : Nat} {xs ys : List PV} (h : lstAt M n = some xs) : lstAt (M.set n (some (.lst ys))) n = some ys := by
  have hl : n < M.length := by
    unfold lstAt at h
    split at h
    · rename_i hh
      exact (List.getElem?_eq_some_iff.mp hh).1
    · cases h
  exact lstAt_of (by rw [List.getElem?_set_self hl])
theorem lstAt_set_ne {M : Store} {n m : Nat} {o : Option SObj} (h : n ≠ m) : lstAt (M.set n o) m = lstAt M m := by
  unfold lstAt
  rw [List.getElem?_set_ne h]
theorem lstAt_app {M L : Store} {n : Nat} {xs : List PV} (h : lstAt M n = some xs) : lstAt (M ++ L) n = some xs := by
  unfold lstAt at h
  split at h
  · rename_i hh
    cases h
    exact lstAt_of (by rw [List.getElem?_append_left (List.getElem?_eq_some_iff.mp hh).1]; exact hh)
  · cases h
@[simp] theorem lstAt_last {M : Store} {xs : List PV} : lstAt (M ++ [some (.lst xs)]) M.length = some xs := lstAt_of (by simp)
@[simp] theorem set_last {M : Store} {o o' : Option SObj} : (M ++ [o]).set M.length o' = M ++ [o'] := by simp
/-! ### comprehensions -/
theorem compR_map {step : PV → Store → Res (Option PV)} {M : Store} (f : PV → PV) : ∀ {items : List PV}, (∀ x ∈ items, step x M = .ok (some (f x)) M) → compR [] step items M = .ok (items.map f) M
  | [], _ => by unfold compR; rw [gdIf_nil]; rfl
  | x :: xs, h => by
    unfold compR
    rw [gdIf_nil, h x List.mem_cons_self]
    simp only
    rw [compR_map f fun y hy => h y (List.mem_cons_of_mem _ hy)]
    rfl
theorem compR_mapA {α : Type} {step : PV → Store → Res (Option PV)} {M : Store} (e : α → PV) (f : α → PV) : ∀ {items : List α}, (∀ x ∈ items, step (e x) M = .ok (some (f x)) M) → compR [] step (items.map e) M = .ok (items.map f) M
  | [], _ => by rw [List.map_nil]; unfold compR; rw [gdIf_nil]; rfl
  | x :: xs, h => by
    rw [List.map_cons]
    unfold compR
    rw [gdIf_nil, h x List.mem_cons_self]
    simp only
    rw [compR_mapA e f fun y hy => h y (List.mem_cons_of_mem _ hy)]
    rfl
theorem compR_filA {α : Type} {step : PV → Store → Res (Option PV)} {M : Store} (e : α → PV) (p : α → Bool) (f : α → PV) : ∀ {items : List α}, (∀ x ∈ items, step (e x) M = .ok (if p x = true then some (f x) else none) M) → compR [] step (items.map e) M = .ok ((items.filter p).map f) M
  | [], _ => by rw [List.map_nil]; unfold compR; rw [gdIf_nil]; rfl
  | x :: xs, h => by
    rw [List.map_cons]
    unfold compR
    rw [gdIf_nil, h x List.mem_cons_self]
    simp only
    rw [compR_filA e p f fun y hy => h y (List.mem_cons_of_mem _ hy)]
    cases hp : p x <;> simp [List.filter_cons, hp]
/-- turns that change the store: P what is known of it, R what is known of each yield -/
theorem compR_st {α : Type} {step : PV → Store → Res (Option PV)} (e : α → PV) (P : Store → Prop) (R : α → PV → Prop) : ∀ {items : List α} {M : Store}, P M → (∀ x ∈ items, ∀ M, P M → ∃ y M', step (e x) M = .ok (some y) M' ∧ P M' ∧ R x y) →
    ∃ ys M', compR [] step (items.map e) M = .ok ys M' ∧ P M' ∧ ys.length = items.length ∧ ∀ (i : Nat) (x : α) (y : PV), items[i]? = some x → ys[i]? = some y → R x y
  | [], M, hP, _ => ⟨[], M, by rw [List.map_nil]; unfold compR; rw [gdIf_nil], hP, rfl, fun i x y h => by simp at h⟩
  | x :: xs, M, hP, h => by
    obtain ⟨y, M1, e1, p1, r1⟩ := h x List.mem_cons_self M hP
    obtain ⟨ys, M2, e2, p2, l2, r2⟩ := compR_st e P R p1 fun z hz => h z (List.mem_cons_of_mem _ hz)
    refine ⟨y :: ys, M2, ?_, p2, by simp [l2], fun i z w h1 h2 => ?_⟩
    · rw [List.map_cons]
      unfold compR
      rw [gdIf_nil, e1]
      simp only
      rw [e2]
      rfl
    · cases i with
      | zero => simp at h1 h2; subst h1 h2; exact r1
      | succ i => exact r2 i z w (by simpa using h1) (by simpa using h2)
/-! ### isinstance -/
@[simp] theorem kit_NoneType_int : L2.kitB "NoneType" "int" = some false := by decide +kernel
@[simp] theorem kit_NoneType_bool : L2.kitB "NoneType" "bool" = some false := by decide +kernel
@[simp] theorem kit_NoneType_str : L2.kitB "NoneType" "str" = some false := by decide +kernel
@[simp] theorem kit_NoneType_tuple : L2.kitB "NoneType" "tuple" = some false := by decide +kernel
@[simp] theorem kit_NoneType_list : L2.kitB "NoneType" "list" = some false := by decide +kernel
@[simp] theorem kit_bool_int : L2.kitB "bool" "int" = some true := by decide +kernel
@[simp] theorem kit_bool_bool : L2.kitB "bool" "bool" = some true := by decide +kernel
@[simp] theorem kit_bool_str : L2.kitB "bool" "str" = some false := by decide +kernel
@[simp] theorem kit_bool_tuple : L2.kitB "bool" "tuple" = some false := by decide +kernel
@[simp] theorem kit_bool_list : L2.kitB "bool" "list" = some false := by decide +kernel
@[simp] theorem kit_int_int : L2.kitB "int" "int" = some true := by decide +kernel
@[simp] theorem kit_int_bool : L2.kitB "int" "bool" = some false := by decide +kernel
@[simp] theorem kit_int_str : L2.kitB "int" "str" = some false := by decide +kernel
@[simp] theorem kit_int_tuple : L2.kitB "int" "tuple" = some false := by decide +kernel
@[simp] theorem kit_int_list : L2.kitB "int" "list" = some false := by decide +kernel
@[simp] theorem kit_str_int : L2.kitB "str" "int" = some false := by decide +kernel
@[simp] theorem kit_str_bool : L2.kitB "str" "bool" = some false := by decide +kernel
@[simp] theorem kit_str_str : L2.kitB "str" "str" = some true := by decide +kernel
@[simp] theorem kit_str_tuple : L2.kitB "str" "tuple" = some false := by decide +kernel
@[simp] theorem kit_str_list : L2.kitB "str" "list" = some false := by decide +kernel
@[simp] theorem kit_tuple_int : L2.kitB "tuple" "int" = some false := by decide +kernel
@[simp] theorem kit_tuple_bool : L2.kitB "tuple" "bool" = some false := by decide +kernel
@[simp] theorem kit_tuple_str : L2.kitB "tuple" "str" = some false := by decide +kernel
@[simp] theorem kit_tuple_tuple : L2.kitB "tuple" "tuple" = some true := by decide +kernel
@[simp] theorem kit_tuple_list : L2.kitB "tuple" "list" = some false := by decide +kernel
@[simp] theorem kit_list_int : L2.kitB "list" "int" = some false := by decide +kernel
@[simp] theorem kit_list_bool : L2.kitB "list" "bool" = some false := by decide +kernel
@[simp] theorem kit_list_str : L2.kitB "list" "str" = some false := by decide +kernel
@[simp] theorem kit_list_tuple : L2.kitB "list" "tuple" = some false := by decide +kernel
@[simp] theorem kit_list_list : L2.kitB "list" "list" = some true := by decide +kernel
/-! ### loops -/
/-- a loop that runs to its end: I the invariant, by the items done -/
theorem forR_inv {α : Type} {b : PV → Sl → Option Sl} {body : Ex} (e : α → PV) (I : Nat → Sl → Store → Prop) : ∀ {items : List α} {i : Nat} {sp : Sl} {M : Store}, I i sp M →
    (∀ (j : Nat) (x : α) (sp : Sl) (M : Store), items[j]? = some x → I (i + j) sp M → ∃ sp1, b (e x) sp = some sp1 ∧ ∃ sp2 M2, (body sp1 M = .nx sp2 M2 ∨ body sp1 M = .cnt sp2 M2) ∧ I (i + j + 1) sp2 M2) →
    ∃ sp' M', forR [] b body (items.map e) sp M = .nx sp' M' ∧ I (i + items.length) sp' M'
  | [], i, sp, M, h, _ => ⟨sp, M, by rw [List.map_nil]; unfold forR; rw [gdIfS_nil], h⟩
  | x :: xs, i, sp, M, h, hs => by
    obtain ⟨sp1, e1, sp2, M2, e2, i2⟩ := hs 0 x sp M rfl h
    obtain ⟨sp', M', e3, i3⟩ := forR_inv (items := xs) (i := i + 1) e I i2 fun j y sp M hy hi => by
      have := hs (j + 1) y sp M (by simpa using hy) (by rw [← Nat.add_assoc, Nat.add_right_comm]; exact hi)
      rw [show i + (j + 1) + 1 = i + 1 + j + 1 by omega] at this
      exact this
    refine ⟨sp', M', ?_, by rw [List.length_cons, show i + (xs.length + 1) = i + 1 + xs.length by omega]; exact i3⟩
    rw [List.map_cons]
    unfold forR
    rw [gdIfS_nil, e1]
    simp only
    rcases e2 with e2 | e2 <;> rw [e2] <;> exact e3
/-- a loop that may leave early with a value -/
theorem forR_ret {α : Type} {b : PV → Sl → Option Sl} {body : Ex} (e : α → PV) (I : Nat → Sl → Store → Prop) (Rt : Nat → PV → Store → Prop) : ∀ {items : List α} {i : Nat} {sp : Sl} {M : Store}, I i sp M →
    (∀ (j : Nat) (x : α) (sp : Sl) (M : Store), items[j]? = some x → I (i + j) sp M → ∃ sp1, b (e x) sp = some sp1 ∧ ((∃ sp2 M2, (body sp1 M = .nx sp2 M2 ∨ body sp1 M = .cnt sp2 M2) ∧ I (i + j + 1) sp2 M2) ∨ ∃ p M2, body sp1 M = .ret p M2 ∧ Rt (i + j) p M2)) →
    (∃ sp' M', forR [] b body (items.map e) sp M = .nx sp' M' ∧ I (i + items.length) sp' M') ∨ ∃ j p M', forR [] b body (items.map e) sp M = .ret p M' ∧ i ≤ j ∧ j < i + items.length ∧ Rt j p M'
  | [], i, sp, M, h, _ => .inl ⟨sp, M, by rw [List.map_nil]; unfold forR; rw [gdIfS_nil], h⟩
  | x :: xs, i, sp, M, h, hs => by
    obtain ⟨sp1, e1, hr⟩ := hs 0 x sp M rfl h
    have unf : forR [] b body ((x :: xs).map e) sp M = (match body sp1 M with
      | .nx sp2 M2 => forR [] b body (xs.map e) sp2 M2
      | .cnt sp2 M2 => forR [] b body (xs.map e) sp2 M2
      | .brk sp2 M2 => .nx sp2 M2
      | r => r) := by
      rw [List.map_cons]
      conv => lhs; unfold forR
      rw [gdIfS_nil, e1] <;> first
        | rfl
        | (cases body sp1 M <;> rfl)
        | (dsimp only; cases body sp1 M <;> rfl)
    rcases hr with ⟨sp2, M2, e2, i2⟩ | ⟨p, M2, e2, r2⟩
    · have hh := forR_ret (items := xs) (i := i + 1) e I Rt i2 fun j y sp M hy hi => by
        have := hs (j + 1) y sp M (by simpa using hy) (by rw [← Nat.add_assoc, Nat.add_right_comm]; exact hi)
        rw [show i + (j + 1) + 1 = i + 1 + j + 1 by omega, show i + (j + 1) = i + 1 + j by omega] at this
        exact this
      have unf2 : forR [] b body ((x :: xs).map e) sp M = forR [] b body (xs.map e) sp2 M2 := by
        rw [unf]
        rcases e2 with e2 | e2 <;> rw [e2]
      rw [unf2]
      rcases hh with ⟨sp', M', e3, i3⟩ | ⟨j, p, M', e3, h1, h2, h3⟩
      · exact .inl ⟨sp', M', e3, by rw [List.length_cons, show i + (xs.length + 1) = i + 1 + xs.length by omega]; exact i3⟩
      · exact .inr ⟨j, p, M', e3, by omega, by simp; omega, h3⟩
    · refine .inr ⟨i, p, M2, ?_, Nat.le_refl _, by simp, r2⟩
      rw [unf, e2]
end DI
set_option maxHeartbeats 4000000
/-! # DI: the evaluator's equations, for simp (never by unfolding: the kernel would run long) -/
namespace DI
open PySem
section
variable {T : Tab} {Γ : Fns} {sp : Sl} {M : Store} {a b c e : CE} {es r : CEs} {i j : Nat}
theorem slot_some {p : PV} (h : sp[i]? = some (some p)) : ev T Γ (.var i) sp M = .ok p M := by simp only [ev, h]
def varK : Option (Option PV) → Store → Res PV
  | some (some p), M => .ok p M
  | _, _ => .bad
@[simp] theorem varK_some {p : PV} : varK (some (some p)) M = .ok p M := by simp only [varK]
@[simp] theorem ev_var : ev T Γ (.var i) sp M = varK sp[i]? M := by
  simp only [ev]
  cases sp[i]? with
  | none => rfl
  | some o => cases o <;> rfl
@[simp] theorem ev_non : ev T Γ .non sp M = .ok .non M := by simp only [ev]
@[simp] theorem ev_bl {x : Bool} : ev T Γ (.bl x) sp M = .ok (.bl x) M := by simp only [ev]
@[simp] theorem ev_int {x : Int} : ev T Γ (.int x) sp M = .ok (.int x) M := by simp only [ev]
@[simp] theorem ev_str {x : Str} : ev T Γ (.str x) sp M = .ok (.str x) M := by simp only [ev]
def globK : Option (Str × PV) → Store → Res PV
  | some q, M => .ok q.2 M
  | none, _ => .bad
@[simp] theorem globK_some {q : Str × PV} : globK (some q) M = .ok q.2 M := by simp only [globK]
@[simp] theorem ev_glob : ev T Γ (.glob i) sp M = globK T.cst[i]? M := by
  simp only [ev]
  cases T.cst[i]? <;> rfl
@[simp] theorem ev_fn : ev T Γ (.fn i) sp M = .ok (.fn i) M := by simp only [ev]
@[simp] theorem ev_bty {x : String} : ev T Γ (.bty x) sp M = .ok (.ty x) M := by simp only [ev]
@[simp] theorem ev_neg : ev T Γ (.neg a) sp M = (ev T Γ a sp M).bind fun p M1 => .ofO (negP M1 p) M1 := by simp only [ev]
def notK : PV → Store → Res PV
  | .bl b, M => .ok (.bl (!b)) M
  | _, _ => .bad
@[simp] theorem notK_bl {x : Bool} : notK (.bl x) M = .ok (.bl (!x)) M := by simp only [notK]
@[simp] theorem ev_not : ev T Γ (.notE a) sp M = (ev T Γ a sp M).bind notK := by
  simp only [ev]
  cases ev T Γ a sp M with
  | ok p M1 => cases p <;> rfl
  | _ => rfl
@[simp] theorem ev_bin {op : Operator} : ev T Γ (.bin op a b) sp M = (ev T Γ a sp M).bind fun p M1 => (ev T Γ b sp M1).bind fun q M2 => .ofO (binP op M2 p q) M2 := by simp only [ev]
@[simp] theorem ev_cmp {op : CmpOp} : ev T Γ (.cmp op a b) sp M = (ev T Γ a sp M).bind fun p M1 => (ev T Γ b sp M1).bind fun q M2 => .ofO (cmpP op M2 p q) M2 := by simp only [ev]
def cmp2K (op2 : CmpOp) (q : PV) (cc : Store → Res PV) : Option PV → Store → Res PV
  | some (.bl true), M => (cc M).bind fun r M3 => .ofO (cmpP op2 M3 q r) M3
  | some (.bl false), M => .ok (.bl false) M
  | _, _ => .bad
@[simp] theorem cmp2K_t {op2 : CmpOp} {q : PV} {cc : Store → Res PV} : cmp2K op2 q cc (some (.bl true)) M = (cc M).bind fun r M3 => .ofO (cmpP op2 M3 q r) M3 := by simp only [cmp2K]
@[simp] theorem cmp2K_f {op2 : CmpOp} {q : PV} {cc : Store → Res PV} : cmp2K op2 q cc (some (.bl false)) M = .ok (.bl false) M := by simp only [cmp2K]
@[simp] theorem ev_cmp2 {op op2 : CmpOp} : ev T Γ (.cmp2 op op2 a b c) sp M = (ev T Γ a sp M).bind fun p M1 => (ev T Γ b sp M1).bind fun q M2 => cmp2K op2 q (ev T Γ c sp) (cmpP op M2 p q) M2 := by
  simp only [ev]
  cases ev T Γ a sp M with
  | ok p M1 =>
    simp only [bind_ok]
    cases ev T Γ b sp M1 with
    | ok q M2 =>
      simp only [bind_ok]
      cases cmpP op M2 p q with
      | none => rfl
      | some z =>
        cases z with
        | bl y => cases y <;> rfl
        | _ => rfl
    | _ => rfl
  | _ => rfl
@[simp] theorem ev_and : ev T Γ (.andE es) sp M = evAnd T Γ es sp M := by simp only [ev]
@[simp] theorem ev_or : ev T Γ (.orE es) sp M = evOr T Γ es sp M := by simp only [ev]
@[simp] theorem evAnd_one : evAnd T Γ (.cons e .nil) sp M = ev T Γ e sp M := by simp only [evAnd]
@[simp] theorem evAnd_cons {e2 : CE} : evAnd T Γ (.cons e (.cons e2 r)) sp M = (ev T Γ e sp M).bind (andK (evAnd T Γ (.cons e2 r) sp)) := by simp only [evAnd]
@[simp] theorem evOr_one : evOr T Γ (.cons e .nil) sp M = ev T Γ e sp M := by simp only [evOr]
@[simp] theorem evOr_cons {e2 : CE} : evOr T Γ (.cons e (.cons e2 r)) sp M = (ev T Γ e sp M).bind (orK (evOr T Γ (.cons e2 r) sp)) := by simp only [evOr]
def ifK (x y : Store → Res PV) : PV → Store → Res PV
  | .bl true, M => x M
  | .bl false, M => y M
  | _, _ => .bad
@[simp] theorem ifK_t {x y : Store → Res PV} : ifK x y (.bl true) M = x M := by simp only [ifK]
@[simp] theorem ifK_f {x y : Store → Res PV} : ifK x y (.bl false) M = y M := by simp only [ifK]
@[simp] theorem ifK_bl {x y : Store → Res PV} {z : Bool} : ifK x y (.bl z) M = if z = true then x M else y M := by cases z <;> simp
@[simp] theorem ev_ifE : ev T Γ (.ife c a b) sp M = (ev T Γ c sp M).bind (ifK (ev T Γ a sp) (ev T Γ b sp)) := by
  simp only [ev]
  cases ev T Γ c sp M with
  | ok p M1 =>
    cases p with
    | bl z => cases z <;> rfl
    | _ => rfl
  | _ => rfl
@[simp] theorem ev_tup : ev T Γ (.tup es) sp M = (evs T Γ es sp M).bind fun ps M1 => if ps.length ≤ sizeLine then .ok (.tup ps) M1 else .bad := by simp only [ev]
@[simp] theorem ev_lst : ev T Γ (.lst es) sp M = (evs T Γ es sp M).bind fun ps M1 => if ps.length ≤ sizeLine then .ok (.lst ps) M1 else .bad := by simp only [ev]
@[simp] theorem ev_lstR : ev T Γ (.lstR es) sp M = (evs T Γ es sp M).bind fun ps M1 => if ps.length ≤ sizeLine then .ok (.ref M1.length) (M1 ++ [some (.lst ps)]) else .bad := by simp only [ev]
@[simp] theorem ev_idx : ev T Γ (.idx a b) sp M = (ev T Γ a sp M).bind fun p M1 => (ev T Γ b sp M1).bind fun q M2 => .ofO (idxP M2 p q) M2 := by simp only [ev]
@[simp] theorem ev_slc {lo hi : Option CE} : ev T Γ (.slc a lo hi) sp M = (ev T Γ a sp M).bind fun p M1 => (evO T Γ lo sp M1).bind fun l M2 => (evO T Γ hi sp M2).bind fun h M3 => .ofO (slcP M3 p l h) M3 := by simp only [ev]
def intK : PV → Store → Res (Option Int)
  | .int n, M => .ok (some n) M
  | _, _ => .bad
@[simp] theorem intK_int {n : Int} : intK (.int n) M = .ok (some n) M := by simp only [intK]
@[simp] theorem evO_none : evO T Γ none sp M = .ok none M := by simp only [evO]
@[simp] theorem evO_some : evO T Γ (some c) sp M = (ev T Γ c sp M).bind intK := by
  simp only [evO]
  cases ev T Γ c sp M with
  | ok p M1 => cases p <;> rfl
  | _ => rfl
@[simp] theorem evC_none : evC T Γ none sp M = .ok true M := by simp only [evC]
@[simp] theorem evC_some : evC T Γ (some c) sp M = evTr (ev T Γ c sp M) := by
  simp only [evC, evTr]
@[simp] theorem ev_call : ev T Γ (.call i es) sp M = (evs T Γ es sp M).bind fun ps M1 => Γ i ps M1 := by simp only [ev]
def callVK (g : Nat → Store → Res PV) : Option (Option PV) → Store → Res PV
  | some (some (.fn f)), M => g f M
  | _, _ => .bad
@[simp] theorem callVK_fn {g : Nat → Store → Res PV} {f : Nat} : callVK g (some (some (.fn f))) M = g f M := by simp only [callVK]
@[simp] theorem ev_callV' : ev T Γ (.callV i es) sp M = callVK (fun f M => (evs T Γ es sp M).bind fun ps M1 => Γ f ps M1) sp[i]? M := by
  simp only [ev]
  cases sp[i]? with
  | none => rfl
  | some o =>
    cases o with
    | none => rfl
    | some p => cases p <;> rfl
@[simp] theorem ev_callB {bi : BI} : ev T Γ (.callB bi es) sp M = (evs T Γ es sp M).bind fun ps M1 => .ofO (biP bi M1 ps) M1 := by simp only [ev]
@[simp] theorem ev_meth {m : BM} : ev T Γ (.meth m a es) sp M = (ev T Γ a sp M).bind fun p M1 => if tyM M1 p = true then (evs T Γ es sp M1).bind fun ps M2 => bmR m M2 p ps else .bad := by simp only [ev]
@[simp] theorem ev_sset : ev T Γ (.sset a) sp M = (ev T Γ a sp M).bind fun p M1 => .ofO (ssetP M1 p) M1 := by simp only [ev]
theorem ev_frz {n : Nat} {xs : List PV} (h1 : sp[i]? = some (some (.ref n))) (h2 : lstAt M n = some xs) : ev T Γ (.frz i) sp M = .ok (.lst xs) (M.set n none) := by simp only [ev, h1, h2]
@[simp] theorem ev_comp {own : List (Str × Nat)} {tg : CT} {it : CI} {cd : Option CE} {elt : CE} : ev T Γ (.comp own tg it cd elt) sp M = (evI T Γ it sp M).bind fun J M1 => (compR J.gd (stepC tg (own.map (·.2)) (evC T Γ cd) (ev T Γ elt) sp) J.items M1).bind fun ys M2 => .ok (.lst ys) M2 := by
  simp only [ev]
  rfl
@[simp] theorem evs_nil : evs T Γ .nil sp M = .ok [] M := by simp only [evs]
@[simp] theorem evs_cons : evs T Γ (.cons e r) sp M = (ev T Γ e sp M).bind fun p M1 => (evs T Γ r sp M1).bind fun ps M2 => .ok (p :: ps) M2 := by simp only [evs]
def starK (r : Store → Res (List PV)) : PV → Store → Res (List PV)
  | .tup xs, M => (r M).bind fun ps M2 => .ok (xs ++ ps) M2
  | .lst xs, M => (r M).bind fun ps M2 => .ok (xs ++ ps) M2
  | _, _ => .bad
@[simp] theorem starK_tup {r : Store → Res (List PV)} {xs : List PV} : starK r (.tup xs) M = (r M).bind fun ps M2 => .ok (xs ++ ps) M2 := by simp only [starK]
@[simp] theorem starK_lst {r : Store → Res (List PV)} {xs : List PV} : starK r (.lst xs) M = (r M).bind fun ps M2 => .ok (xs ++ ps) M2 := by simp only [starK]
@[simp] theorem evs_star : evs T Γ (.star e r) sp M = (ev T Γ e sp M).bind (starK (evs T Γ r sp)) := by
  simp only [evs]
  cases ev T Γ e sp M with
  | ok p M1 => cases p <;> rfl
  | _ => rfl
@[simp] theorem evI_seq : evI T Γ (.seq e) sp M = (ev T Γ e sp M).bind fun p M1 => .ofO (seqIt M1 p) M1 := by simp only [evI]
def rng1K : PV → Store → Res ItV
  | .int n, M => .ofO (rngIt 0 n) M
  | _, _ => .bad
@[simp] theorem rng1K_int {n : Int} : rng1K (.int n) M = .ofO (rngIt 0 n) M := by simp only [rng1K]
@[simp] theorem evI_rng1 : evI T Γ (.rng1 a) sp M = (ev T Γ a sp M).bind rng1K := by
  simp only [evI]
  cases ev T Γ a sp M with
  | ok p M1 => cases p <;> rfl
  | _ => rfl
def rng2K : PV → PV → Store → Res ItV
  | .int n, .int m, M => .ofO (rngIt n m) M
  | _, _, _ => .bad
@[simp] theorem rng2K_int {n m : Int} : rng2K (.int n) (.int m) M = .ofO (rngIt n m) M := by simp only [rng2K]
@[simp] theorem evI_rng2 : evI T Γ (.rng2 a b) sp M = (ev T Γ a sp M).bind fun p M1 => (ev T Γ b sp M1).bind fun q M2 => rng2K p q M2 := by
  simp only [evI]
  cases ev T Γ a sp M with
  | ok p M1 =>
    simp only [bind_ok]
    cases ev T Γ b sp M1 with
    | ok q M2 => cases p <;> cases q <;> rfl
    | _ => rfl
  | _ => rfl
def rng3K : PV → PV → PV → Store → Res ItV
  | .int n, .int m, .int k, M => .ofO (rngIt3 n m k) M
  | _, _, _, _ => .bad
@[simp] theorem rng3K_int {n m k : Int} : rng3K (.int n) (.int m) (.int k) M = .ofO (rngIt3 n m k) M := by simp only [rng3K]
@[simp] theorem evI_rng3 : evI T Γ (.rng3 a b c) sp M = (ev T Γ a sp M).bind fun p M1 => (ev T Γ b sp M1).bind fun q M2 => (ev T Γ c sp M2).bind fun r M3 => rng3K p q r M3 := by
  simp only [evI]
  cases ev T Γ a sp M with
  | ok p M1 =>
    simp only [bind_ok]
    cases ev T Γ b sp M1 with
    | ok q M2 =>
      simp only [bind_ok]
      cases ev T Γ c sp M2 with
      | ok r M3 => cases p <;> cases q <;> cases r <;> rfl
      | _ => rfl
    | _ => rfl
  | _ => rfl
def enK : Option ItV → Store → Res ItV
  | some J, M => .ok ⟨enumL J.items, J.gd⟩ M
  | none, _ => .bad
@[simp] theorem enK_some {J : ItV} : enK (some J) M = .ok ⟨enumL J.items, J.gd⟩ M := by simp only [enK]
@[simp] theorem evI_enum : evI T Γ (.enum e) sp M = (ev T Γ e sp M).bind fun p M1 => enK (seqIt M1 p) M1 := by
  simp only [evI]
  cases ev T Γ e sp M with
  | ok p M1 =>
    simp only [bind_ok]
    cases seqIt M1 p <;> rfl
  | _ => rfl
def ziK : Option ItV → Option ItV → Store → Res ItV
  | some J, some J', M => .ok ⟨zipL J.items J'.items, J.gd ++ J'.gd⟩ M
  | _, _, _ => .bad
@[simp] theorem ziK_some {J J' : ItV} : ziK (some J) (some J') M = .ok ⟨zipL J.items J'.items, J.gd ++ J'.gd⟩ M := by simp only [ziK]
@[simp] theorem evI_zip : evI T Γ (.zip a b) sp M = (ev T Γ a sp M).bind fun p M1 => (ev T Γ b sp M1).bind fun q M2 => ziK (seqIt M2 p) (seqIt M2 q) M2 := by
  simp only [evI]
  cases ev T Γ a sp M with
  | ok p M1 =>
    simp only [bind_ok]
    cases ev T Γ b sp M1 with
    | ok q M2 =>
      simp only [bind_ok]
      cases seqIt M2 p <;> cases seqIt M2 q <;> rfl
    | _ => rfl
  | _ => rfl
/-! ### statements -/
variable {s : CS} {ss sb sc : CSs} {t : CT}
@[simp] theorem exs_nil : exs T Γ .nil sp M = .nx sp M := by simp only [exs]
@[simp] theorem exs_cons : exs T Γ (.cons s ss) sp M = (ex T Γ s sp M).seq (exs T Γ ss) := by simp only [exs]
@[simp] theorem ex_asg : ex T Γ (.asg t e) sp M = .ofR (ev T Γ e sp M) sp (asgK t sp) := by simp only [ex]
@[simp] theorem ex_asgC {own : List (Str × Nat)} {tg : CT} {it : CI} {cd : Option CE} {elt : CE} : ex T Γ (.asgC i own tg it cd elt) sp M = .ofR (ev T Γ (.comp own tg it cd elt) sp M) sp (asgK (.name i) sp) := by simp only [ex]
@[simp] theorem ex_par {ts : List Nat} : ex T Γ (.par ts es) sp M = .ofR (evs T Γ es sp M) sp (parK ts sp) := by simp only [ex]
@[simp] theorem ex_asgI : ex T Γ (.asgI a b e) sp M = .ofR (ev T Γ e sp M) sp fun v M1 => .ofR (ev T Γ a sp M1) sp fun p M2 => .ofR (ev T Γ b sp M2) sp fun q M3 => setK sp v p q M3 := by simp only [ex]
def augV (g : PV → SRes) : Option (Option PV) → SRes
  | some (some p) => g p
  | _ => .bad
@[simp] theorem augV_some {g : PV → SRes} {p : PV} : augV g (some (some p)) = g p := by simp only [augV]
@[simp] theorem ex_aug {op : Operator} : ex T Γ (.aug i op e) sp M = augV (fun p => .ofR (ev T Γ e sp M) sp (augK op i sp p)) sp[i]? := by
  simp only [ex]
  cases sp[i]? with
  | none => rfl
  | some o => cases o <;> rfl
@[simp] theorem ex_augI {op : Operator} : ex T Γ (.augI a b op e) sp M = .ofR (ev T Γ a sp M) sp fun p M1 => .ofR (ev T Γ b sp M1) sp fun k M2 => if isRef p = true then augIK op sp (ev T Γ e) p k M2 else .bad := by simp only [ex]
@[simp] theorem ex_expr : ex T Γ (.expr e) sp M = .ofR (ev T Γ e sp M) sp fun _ M1 => .nx sp M1 := by simp only [ex]
@[simp] theorem ex_ret : ex T Γ (.ret e) sp M = .ofR (ev T Γ e sp M) sp fun p M1 => .ret p M1 := by simp only [ex]
@[simp] theorem ex_retN : ex T Γ .retN sp M = .ret .non M := by simp only [ex]
@[simp] theorem ex_ite : ex T Γ (.ite c sb sc) sp M = .ofR (evTr (ev T Γ c sp M)) sp fun t M1 => if t = true then exs T Γ sb sp M1 else exs T Γ sc sp M1 := by simp only [ex]
@[simp] theorem ex_for {it : CI} : ex T Γ (.forS t it sb) sp M = .ofR (evI T Γ it sp M) sp fun J M1 => forR J.gd (asg t) (exs T Γ sb) J.items sp M1 := by simp only [ex]
@[simp] theorem ex_while : ex T Γ (.whileS c sb) sp M = whileR (fun sp M => evTr (ev T Γ c sp M)) (exs T Γ sb) sp M := by simp only [ex]
@[simp] theorem ex_raise : ex T Γ (.raise i es) sp M = .ofR (evs T Γ es sp M) sp fun ps M1 => .exc ⟨i, ps⟩ sp M1 := by simp only [ex]
def tryK (exm : List (Nat × Nat × Bool)) (hs : List HC) : SRes → SRes
  | .exc x sp M => runH exm x sp M hs
  | r => r
@[simp] theorem tryK_exc {exm : List (Nat × Nat × Bool)} {hs : List HC} {x : Exc} : tryK exm hs (.exc x sp M) = runH exm x sp M hs := by simp only [tryK]
@[simp] theorem tryK_nx {exm : List (Nat × Nat × Bool)} {hs : List HC} : tryK exm hs (.nx sp M) = .nx sp M := by simp only [tryK]
@[simp] theorem tryK_ret {exm : List (Nat × Nat × Bool)} {hs : List HC} {p : PV} : tryK exm hs (.ret p M) = .ret p M := by simp only [tryK]
@[simp] theorem ex_try {hs : List HC} : ex T Γ (.tryS sb hs) sp M = tryK T.exm hs (exs T Γ sb sp M) := by
  simp only [ex]
  cases exs T Γ sb sp M <;> rfl
@[simp] theorem ex_pass : ex T Γ .pass sp M = .nx sp M := by simp only [ex]
@[simp] theorem ex_brk : ex T Γ .brk sp M = .brk sp M := by simp only [ex]
@[simp] theorem ex_cnt : ex T Γ .cnt sp M = .cnt sp M := by simp only [ex]
/-- what a def gives -/
def runK (n : Nat) : SRes → Res PV
  | .nx _ M' => .ok .non (gcM n M' [])
  | .ret p M' => .ok p (gcM n M' [p])
  | .exc x _ M' => .exc x (gcM n M' x.fs)
  | _ => .bad
@[simp] theorem runK_nx {n : Nat} : runK n (.nx sp M) = .ok .non (gcM n M []) := by simp only [runK]
@[simp] theorem runK_ret {n : Nat} {p : PV} : runK n (.ret p M) = .ok p (gcM n M [p]) := by simp only [runK]
@[simp] theorem runK_exc {n : Nat} {x : Exc} : runK n (.exc x sp M) = .exc x (gcM n M x.fs) := by simp only [runK]
theorem runF_eq {cd : FnC} {ps : List PV} (h : ps.length = cd.ar) : runF T Γ cd ps M = runK M.length (exs T Γ cd.body (ps.map some ++ List.replicate (cd.names.length - cd.ar) none) M) := by
  unfold runF
  rw [if_pos h]
  cases exs T Γ cd.body (ps.map some ++ List.replicate (cd.names.length - cd.ar) none) M <;> rfl
end
/-- a call runs the def's code; n: the slots that are not parameters -/
theorem Fn_run {T : Tab} {ents : List DEnt} {k f : Nat} {ar n : Nat} {nm : List Str} {body : CSs} {ps : List PV} {M : Store} (h : codesOf ents f = some ⟨ar, nm, body⟩) (h1 : ps.length = ar) (h2 : nm.length = ar + n) :
    Fn T (codesOf ents) (k + 1) f ps M = runK M.length (exs T (Fn T (codesOf ents) k) body (ps.map some ++ List.replicate n none) M) := by
  simp only [Fn, h]
  rw [runF_eq (cd := ⟨ar, nm, body⟩) h1]
  show runK M.length (exs T _ body (ps.map some ++ List.replicate (nm.length - ar) none) M) = _
  rw [show nm.length - ar = n by omega]
end DI
set_option maxHeartbeats 4000000
/-! # DI: operators and built-in functions at known values, for simp (so that nothing is unfolded) -/
namespace DI
open PySem
section
variable {M : Store} {i j : Int} {p q : PV} {xs ys : List PV} {b : Bool}
@[simp] theorem cE : cmpP .Eq M p q = eqP M p q := rfl
@[simp] theorem cN : cmpP .NotEq M p q = neP M p q := rfl
@[simp] theorem cLt : cmpP .Lt M (.int i) (.int j) = some (.bl (decide (i < j))) := rfl
@[simp] theorem cLe : cmpP .LtE M (.int i) (.int j) = some (.bl (decide (i ≤ j))) := rfl
@[simp] theorem cGt : cmpP .Gt M (.int i) (.int j) = some (.bl (decide (j < i))) := rfl
@[simp] theorem cGe : cmpP .GtE M (.int i) (.int j) = some (.bl (decide (j ≤ i))) := rfl
@[simp] theorem cIs : cmpP .Is M p q = isP M p q := rfl
@[simp] theorem cIsNot : cmpP .IsNot M p q = isNotP M p q := rfl
@[simp] theorem cIn : cmpP .In M p q = inP M p q := rfl
@[simp] theorem cNotIn : cmpP .NotIn M p q = notInP M p q := rfl
@[simp] theorem bAdd : binP .Add M (.int i) (.int j) = some (.int (i + j)) := rfl
@[simp] theorem bSub : binP .Sub M (.int i) (.int j) = some (.int (i - j)) := rfl
theorem bMul (h : mulOk i j = true) : binP .Mult M (.int i) (.int j) = some (.int (i * j)) := by
  show (if mulOk i j = true then some (PV.int (i * j)) else none) = _
  rw [if_pos h]
theorem bDiv (h : divOk j = true) : binP .FloorDiv M (.int i) (.int j) = some (.int (i.fdiv j)) := by
  show (if divOk j = true then some (PV.int (i.fdiv j)) else none) = _
  rw [if_pos h]
theorem bMod (h : j ≠ 0) : binP .Mod M (.int i) (.int j) = some (.int (i.fmod j)) := by
  show (if j ≠ 0 then some (PV.int (i.fmod j)) else none) = _
  rw [if_pos h]
theorem bAddL (h : xs.length + ys.length ≤ sizeLine) : binP .Add M (.lst xs) (.lst ys) = some (.lst (xs ++ ys)) := by
  show (if xs.length + ys.length ≤ sizeLine then some (PV.lst (xs ++ ys)) else none) = _
  rw [if_pos h]
theorem bAddT (h : xs.length + ys.length ≤ sizeLine) : binP .Add M (.tup xs) (.tup ys) = some (.tup (xs ++ ys)) := by
  show (if xs.length + ys.length ≤ sizeLine then some (PV.tup (xs ++ ys)) else none) = _
  rw [if_pos h]
theorem bMulL (h : repOk xs j = true) : binP .Mult M (.lst xs) (.int j) = some (.lst (repP xs j)) := by
  show (if repOk xs j = true then some (PV.lst (repP xs j)) else none) = _
  rw [if_pos h]
theorem bMulT (h : repOk xs j = true) : binP .Mult M (.tup xs) (.int j) = some (.tup (repP xs j)) := by
  show (if repOk xs j = true then some (PV.tup (repP xs j)) else none) = _
  rw [if_pos h]
@[simp] theorem nInt : negP M (.int i) = some (.int (-i)) := rfl
@[simp] theorem biLenT : biP .len M [.tup xs] = some (.int xs.length) := rfl
@[simp] theorem biLenL : biP .len M [.lst xs] = some (.int xs.length) := rfl
theorem biLenR {n : Nat} (h : lstAt M n = some xs) : biP .len M [.ref n] = some (.int xs.length) := by
  show (match lstAt M n with | some xs => some (PV.int xs.length) | none => none) = _
  rw [h]
@[simp] theorem biAbs : biP .abs M [.int i] = some (.int (if i < 0 then -i else i)) := rfl
@[simp] theorem biInt : biP .int M [.int i] = some (.int i) := rfl
@[simp] theorem biIntB : biP .int M [.bl b] = some (.int (if b then 1 else 0)) := rfl
@[simp] theorem biTupT : biP .tuple M [.tup xs] = some (.tup xs) := rfl
@[simp] theorem biTupL : biP .tuple M [.lst xs] = some (.tup xs) := rfl
theorem biTupR {n : Nat} (h : lstAt M n = some xs) : biP .tuple M [.ref n] = some (.tup xs) := by
  show (lstAt M n).map PV.tup = _
  rw [h]
  rfl
@[simp] theorem biLstT : biP .list M [.tup xs] = some (.lst xs) := rfl
@[simp] theorem biLstL : biP .list M [.lst xs] = some (.lst xs) := rfl
@[simp] theorem biMin2 : biP .min M [.int i, .int j] = some (.int (if j < i then j else i)) := rfl
@[simp] theorem biMax2 : biP .max M [.int i, .int j] = some (.int (if i < j then j else i)) := rfl
theorem intsOf_m : ∀ l : List Int, intsOf (l.map .int) = some l
  | [] => rfl
  | x :: l => by simp only [List.map_cons, intsOf, intsOf_m l]
theorem biSum (l : List Int) : biP .sum M [.lst (l.map .int)] = some (.int l.sum) := by
  show (intsOf (l.map .int)).map (fun ns => PV.int ns.sum) = _
  rw [intsOf_m]
  rfl
theorem biMaxL {n : Int} {l : List Int} : biP .max M [.lst ((n :: l).map .int)] = some (.int (maxI (n :: l))) := by
  have h := intsOf_m (n :: l)
  show (match intsOf ((n :: l).map PV.int) with
    | some (n :: ns) => some (PV.int (maxI (n :: ns)))
    | some [] => none
    | none => maxDL ((n :: l).map PV.int)) = _
  rw [h]
theorem blsOf_m {α : Type} (f : α → Bool) : ∀ l : List α, blsOf (l.map fun x => PV.bl (f x)) = some (l.map f)
  | [] => rfl
  | x :: l => by
    simp only [List.map_cons, blsOf, blsOf_m f l]
theorem biAll {α : Type} (f : α → Bool) (l : List α) : biP .all M [.lst (l.map fun x => PV.bl (f x))] = some (.bl (l.all f)) := by
  show (blsOf (l.map fun x => PV.bl (f x))).map (fun bs => PV.bl (bs.all id)) = _
  rw [blsOf_m]
  simp
theorem biAny {α : Type} (f : α → Bool) (l : List α) : biP .any M [.lst (l.map fun x => PV.bl (f x))] = some (.bl (l.any f)) := by
  show (blsOf (l.map fun x => PV.bl (f x))).map (fun bs => PV.bl (bs.any id)) = _
  rw [blsOf_m]
  simp
@[simp] theorem isiT : biP .isinst M [.tup xs, .ty "tuple"] = some (.bl true) := by
  show (L2.kitB "tuple" "tuple").map PV.bl = _
  rw [kit_tuple_tuple]; rfl
@[simp] theorem isiL : biP .isinst M [.lst xs, .ty "tuple"] = some (.bl false) := by
  show (L2.kitB "list" "tuple").map PV.bl = _
  rw [kit_list_tuple]; rfl
@[simp] theorem isiN : biP .isinst M [.non, .ty "tuple"] = some (.bl false) := by
  show (L2.kitB "NoneType" "tuple").map PV.bl = _
  rw [kit_NoneType_tuple]; rfl
@[simp] theorem isiI : biP .isinst M [.int i, .ty "tuple"] = some (.bl false) := by
  show (L2.kitB "int" "tuple").map PV.bl = _
  rw [kit_int_tuple]; rfl
@[simp] theorem seqT : seqIt M (.tup xs) = some ⟨xs, []⟩ := rfl
@[simp] theorem seqL : seqIt M (.lst xs) = some ⟨xs, []⟩ := rfl
@[simp] theorem isNN : isNotP M .non .non = some (.bl false) := rfl
@[simp] theorem isNT : isNotP M (.tup xs) .non = some (.bl true) := rfl
@[simp] theorem mAppend {n : Nat} {xs : List PV} (h : lstAt M n = some xs) : tyM M (.ref n) = true := by
  unfold tyM
  simp [h]
theorem bmAppend {n : Nat} (h : lstAt M n = some xs) (hl : xs.length < sizeLine) : bmR .append M (.ref n) [p] = .ok .non (M.set n (some (.lst (xs ++ [p])))) := by
  unfold bmR bmP
  simp only [h]
  rw [if_pos hl]
end
theorem rngIt0 {n : Nat} (h : n ≤ 1000) : rngIt 0 (n : Int) = some ⟨(List.range n).map fun j : Nat => PV.int (j : Int), []⟩ := by
  have hr : rngL 0 1 n = (List.range n).map fun j : Nat => PV.int (j : Int) := by
    unfold rngL
    simp
  unfold rngIt
  have e0 : ((n : Int) - 0).toNat = n := by omega
  have hz : 1000 ≤ sizeLine := by decide
  rw [if_pos (by simp only [rngOk, Bool.and_eq_true, decide_eq_true_eq]; omega), e0, hr]
theorem enumLA {α : Type} (f : α → PV) (l : List α) : enumL (l.map f) = l.zipIdx.map fun p => .tup [.int (p.2 : Int), f p.1] := by
  unfold enumL
  rw [List.zipIdx_map, List.map_map]
  rfl
theorem zipLA {α β : Type} (f : α → PV) (g : β → PV) (l : List α) (m : List β) : zipL (l.map f) (m.map g) = (l.zip m).map fun p => .tup [f p.1, g p.2] := by
  unfold zipL
  rw [List.zip_map, List.map_map]
  rfl
end DI
set_option maxHeartbeats 4000000
namespace DI
open PySem
/-! ### values whose == is sameness -/
mutual
def cln : Nat → PV → Bool
  | _, .non => true
  | _, .int _ => true
  | _, .str s => (PyData.str s).canLay0
  | n + 1, .tup xs => clns n xs
  | n + 1, .lst xs => clns n xs
  | _, _ => false
def clns : Nat → List PV → Bool
  | _, [] => true
  | n, x :: xs => cln n x && clns n xs
end
mutual
theorem cln_dat : ∀ (p : PV) (n : Nat), cln n p = true → ∃ d, dat p = some d ∧ d.canLay0 = true ∧ d.depth ≤ n
  | .non, n, h => ⟨_, rfl, rfl, by simp [PyData.depth]⟩
  | .int i, n, h => ⟨_, rfl, rfl, by simp [PyData.depth]⟩
  | .str s, n, h => ⟨_, rfl, by unfold cln at h; exact h, by simp [PyData.depth]⟩
  | .tup xs, 0, h => by simp [cln] at h
  | .lst xs, 0, h => by simp [cln] at h
  | .tup xs, n + 1, h => by
    unfold cln at h
    obtain ⟨ds, e, h1, h2⟩ := clns_dat xs n h
    exact ⟨.tuple ds, by simp [dat, e], by simpa [PyData.canLay0] using h1, by simp [PyData.depth]; omega⟩
  | .lst xs, n + 1, h => by
    unfold cln at h
    obtain ⟨ds, e, h1, h2⟩ := clns_dat xs n h
    exact ⟨.list ds, by simp [dat, e], by simpa [PyData.canLay0] using h1, by simp [PyData.depth]; omega⟩
  | .bl b, n, h => by simp [cln] at h
  | .ref b, n, h => by simp [cln] at h
  | .fn b, n, h => by simp [cln] at h
  | .ty b, n, h => by simp [cln] at h
  | .scr b, n, h => by simp [cln] at h
theorem clns_dat : ∀ (ps : List PV) (n : Nat), clns n ps = true → ∃ ds, dats ps = some ds ∧ PyData.canLayAll0 ds = true ∧ PyData.depthAll ds ≤ n
  | [], n, h => ⟨[], rfl, rfl, by simp [PyData.depthAll]⟩
  | p :: ps, n, h => by
    unfold clns at h
    obtain ⟨h1, h2⟩ := Bool.and_eq_true_iff.mp h
    obtain ⟨d, e1, a1, b1⟩ := cln_dat p n h1
    obtain ⟨ds, e2, a2, b2⟩ := clns_dat ps n h2
    exact ⟨d :: ds, by simp [dats, e1, e2], by simp [PyData.canLayAll0, a1, a2], by simp [PyData.depthAll]; omega⟩
end
theorem eqv_non (e : PyData) : PyData.eqv .none e = true ↔ e = .none := by cases e <;> simp [PyData.eqv]
theorem eqv_int (i : Int) (e : PyData) (h : ∀ b, e ≠ .bool b) : PyData.eqv (.int i) e = true ↔ e = .int i := by
  cases e with
  | bool b => exact absurd rfl (h b)
  | int j => simp [PyData.eqv]; exact eq_comm
  | _ => simp [PyData.eqv]
theorem eqv_str (i : Str) (e : PyData) : PyData.eqv (.str i) e = true ↔ e = .str i := by
  cases e with
  | str j => simp [PyData.eqv]; exact eq_comm
  | _ => simp [PyData.eqv]
theorem eqv_tup (xs : List PyData) (e : PyData) : PyData.eqv (.tuple xs) e = true ↔ ∃ ys, e = .tuple ys ∧ PyData.eqvAll xs ys = true := by
  cases e <;> simp [PyData.eqv]
theorem eqv_lst (xs : List PyData) (e : PyData) : PyData.eqv (.list xs) e = true ↔ ∃ ys, e = .list ys ∧ PyData.eqvAll xs ys = true := by
  cases e <;> simp [PyData.eqv]
theorem eqv_nil (es : List PyData) : PyData.eqvAll [] es = true ↔ es = [] := by
  cases es <;> simp [PyData.eqvAll]
theorem eqv_cons (d : PyData) (ds es : List PyData) : PyData.eqvAll (d :: ds) es = true ↔ ∃ x xs, es = x :: xs ∧ PyData.eqv d x = true ∧ PyData.eqvAll ds xs = true := by
  cases es with
  | nil => simp [PyData.eqvAll]
  | cons x xs =>
    simp only [PyData.eqvAll, Bool.and_eq_true]
    constructor
    · rintro ⟨a, b⟩
      exact ⟨_, _, rfl, a, b⟩
    · rintro ⟨_, _, e, a, b⟩
      cases e
      exact ⟨a, b⟩
theorem dat_non {q : PV} {e : PyData} (h : dat q = some e) : e = .none ↔ q = .non := by
  cases q <;> simp [dat] at h <;> first | (subst h; simp) | (obtain ⟨x, _, rfl⟩ := h; simp)
theorem dat_int {q : PV} {e : PyData} {i : Int} (h : dat q = some e) : e = .int i ↔ q = .int i := by
  cases q <;> simp [dat] at h <;> first | (subst h; simp) | (obtain ⟨x, _, rfl⟩ := h; simp)
theorem dat_str {q : PV} {e : PyData} {i : Str} (h : dat q = some e) : e = .str i ↔ q = .str i := by
  cases q <;> simp [dat] at h <;> first | (subst h; simp) | (obtain ⟨x, _, rfl⟩ := h; simp)
theorem dat_tup {q : PV} {ys : List PyData} (h : dat q = some (.tuple ys)) : ∃ qs, q = .tup qs ∧ dats qs = some ys := by
  cases q <;> simp [dat] at h <;> exact ⟨_, rfl, h⟩
theorem dat_lst {q : PV} {ys : List PyData} (h : dat q = some (.list ys)) : ∃ qs, q = .lst qs ∧ dats qs = some ys := by
  cases q <;> simp [dat] at h <;> exact ⟨_, rfl, h⟩
theorem cln_nobool {q : PV} {n : Nat} {b : Bool} (hq : cln n q = true) (h : dat q = some (.bool b)) : False := by
  cases q <;> simp [dat] at h
  simp [cln] at hq
mutual
theorem cln_eqv : ∀ (p q : PV) (n m : Nat) (d e : PyData), cln n p = true → cln m q = true → dat p = some d → dat q = some e → (PyData.eqv d e = true ↔ p = q)
  | .non, q, n, m, d, e, hp, hq, h1, h2 => by
    have h1 : PyData.none = d := Option.some.inj h1
    subst h1
    rw [eqv_non, dat_non h2]
    exact eq_comm
  | .int i, q, n, m, d, e, hp, hq, h1, h2 => by
    have h1 : PyData.int i = d := Option.some.inj h1
    subst h1
    rw [eqv_int i e (fun b hb => cln_nobool hq (hb ▸ h2)), dat_int h2]
    exact eq_comm
  | .str i, q, n, m, d, e, hp, hq, h1, h2 => by
    have h1 : PyData.str i = d := Option.some.inj h1
    subst h1
    rw [eqv_str, dat_str h2]
    exact eq_comm
  | .tup xs, q, 0, m, d, e, hp, hq, h1, h2 => by simp [cln] at hp
  | .lst xs, q, 0, m, d, e, hp, hq, h1, h2 => by simp [cln] at hp
  | .tup xs, q, n + 1, m, d, e, hp, hq, h1, h2 => by
    unfold cln at hp
    obtain ⟨ds, e1, _, _⟩ := clns_dat xs n hp
    simp only [dat, e1, Option.map_some, Option.some.injEq] at h1
    subst h1
    rw [eqv_tup]
    constructor
    · rintro ⟨ys, rfl, h⟩
      obtain ⟨qs, rfl, e2⟩ := dat_tup h2
      cases m with
      | zero => simp [cln] at hq
      | succ m =>
        unfold cln at hq
        rw [(clns_eqv xs qs n m ds ys hp hq e1 e2).mp h]
    · rintro rfl
      simp only [dat, e1, Option.map_some, Option.some.injEq] at h2
      exact ⟨ds, h2.symm, (clns_eqv xs xs n n ds ds hp hp e1 e1).mpr rfl⟩
  | .lst xs, q, n + 1, m, d, e, hp, hq, h1, h2 => by
    unfold cln at hp
    obtain ⟨ds, e1, _, _⟩ := clns_dat xs n hp
    simp only [dat, e1, Option.map_some, Option.some.injEq] at h1
    subst h1
    rw [eqv_lst]
    constructor
    · rintro ⟨ys, rfl, h⟩
      obtain ⟨qs, rfl, e2⟩ := dat_lst h2
      cases m with
      | zero => simp [cln] at hq
      | succ m =>
        unfold cln at hq
        rw [(clns_eqv xs qs n m ds ys hp hq e1 e2).mp h]
    · rintro rfl
      simp only [dat, e1, Option.map_some, Option.some.injEq] at h2
      exact ⟨ds, h2.symm, (clns_eqv xs xs n n ds ds hp hp e1 e1).mpr rfl⟩
  | .bl b, _, n, _, _, _, h, _, _, _ => by simp [cln] at h
  | .ref b, _, n, _, _, _, h, _, _, _ => by simp [cln] at h
  | .fn b, _, n, _, _, _, h, _, _, _ => by simp [cln] at h
  | .ty b, _, n, _, _, _, h, _, _, _ => by simp [cln] at h
  | .scr b, _, n, _, _, _, h, _, _, _ => by simp [cln] at h
theorem clns_eqv : ∀ (ps qs : List PV) (n m : Nat) (ds es : List PyData), clns n ps = true → clns m qs = true → dats ps = some ds → dats qs = some es → (PyData.eqvAll ds es = true ↔ ps = qs)
  | [], qs, n, m, ds, es, hp, hq, h1, h2 => by
    simp only [dats, Option.some.injEq] at h1
    subst h1
    rw [eqv_nil]
    cases qs with
    | nil =>
      simp only [dats, Option.some.injEq] at h2
      exact ⟨fun _ => rfl, fun _ => h2.symm⟩
    | cons q qs =>
      unfold clns at hq
      obtain ⟨q1, q2⟩ := Bool.and_eq_true_iff.mp hq
      obtain ⟨d, e1, _, _⟩ := cln_dat q m q1
      obtain ⟨ds, e2, _, _⟩ := clns_dat qs m q2
      simp only [dats, e1, e2, Option.some.injEq] at h2
      subst h2
      exact ⟨fun h => by simp at h, fun h => by simp at h⟩
  | p :: ps, qs, n, m, ds, es, hp, hq, h1, h2 => by
    unfold clns at hp
    obtain ⟨p1, p2⟩ := Bool.and_eq_true_iff.mp hp
    obtain ⟨dp, e1, _, _⟩ := cln_dat p n p1
    obtain ⟨dps, e2, _, _⟩ := clns_dat ps n p2
    simp only [dats, e1, e2, Option.some.injEq] at h1
    subst h1
    rw [eqv_cons]
    cases qs with
    | nil =>
      simp only [dats, Option.some.injEq] at h2
      subst h2
      exact ⟨fun ⟨_, _, h, _⟩ => by simp at h, fun h => by simp at h⟩
    | cons q qs =>
      unfold clns at hq
      obtain ⟨q1, q2⟩ := Bool.and_eq_true_iff.mp hq
      obtain ⟨d, e3, _, _⟩ := cln_dat q m q1
      obtain ⟨ds, e4, _, _⟩ := clns_dat qs m q2
      simp only [dats, e3, e4, Option.some.injEq] at h2
      subst h2
      have t1 := cln_eqv p q n m dp d p1 q1 e1 e3
      have t2 := clns_eqv ps qs n m dps ds p2 q2 e2 e4
      constructor
      · rintro ⟨_, _, h, a, b⟩
        cases h
        rw [t1.mp a, t2.mp b]
      · intro h
        cases h
        exact ⟨_, _, rfl, t1.mpr rfl, t2.mpr rfl⟩
end
theorem cln_datM {M : Store} {p : PV} {n : Nat} (h : cln n p = true) : datM M p = dat p := by
  cases p <;> first | rfl | simp [cln] at h
theorem eqP_cln {M : Store} {p q : PV} (hp : cln 60 p = true) (hq : cln 60 q = true) : ∃ b, eqP M p q = some (.bl b) ∧ neP M p q = some (.bl (!b)) ∧ (b = true ↔ p = q) := by
  obtain ⟨d, e1, a1, b1⟩ := cln_dat p 60 hp
  obtain ⟨e, e2, a2, b2⟩ := cln_dat q 60 hq
  have hs : (SeqAt.shaped d && SeqAt.shaped e) = true := by
    simp only [SeqAt.shaped, a1, a2, Bool.true_and, Bool.and_eq_true, decide_eq_true_eq]
    omega
  refine ⟨PyData.eqv d e, ?_, ?_, cln_eqv p q 60 60 d e hp hq e1 e2⟩
  · unfold eqP
    rw [cln_datM hp, cln_datM hq, e1, e2]
    dsimp only
    rw [if_pos hs]
  · unfold neP
    rw [cln_datM hp, cln_datM hq, e1, e2]
    dsimp only
    rw [if_pos hs]
theorem eqP_same {M : Store} {p : PV} (hp : cln 60 p = true) : eqP M p p = some (.bl true) := by
  obtain ⟨b, e, _, h⟩ := eqP_cln (M := M) hp hp
  rw [e, h.mpr rfl]
theorem neP_same {M : Store} {p : PV} (hp : cln 60 p = true) : neP M p p = some (.bl false) := by
  obtain ⟨b, _, e, h⟩ := eqP_cln (M := M) hp hp
  rw [e, h.mpr rfl]
  rfl
theorem eqP_diff {M : Store} {p q : PV} (hp : cln 60 p = true) (hq : cln 60 q = true) (h : p ≠ q) : eqP M p q = some (.bl false) := by
  obtain ⟨b, e, _, hb⟩ := eqP_cln (M := M) hp hq
  cases b with
  | true => exact absurd (hb.mp rfl) h
  | false => exact e
theorem neP_diff {M : Store} {p q : PV} (hp : cln 60 p = true) (hq : cln 60 q = true) (h : p ≠ q) : neP M p q = some (.bl true) := by
  obtain ⟨b, _, e, hb⟩ := eqP_cln (M := M) hp hq
  cases b with
  | true => exact absurd (hb.mp rfl) h
  | false => exact e
theorem clns_all {n : Nat} : ∀ {xs : List PV}, (∀ x ∈ xs, cln n x = true) → clns n xs = true
  | [], _ => rfl
  | x :: xs, h => by
    unfold clns
    rw [h x List.mem_cons_self, clns_all fun y hy => h y (List.mem_cons_of_mem _ hy)]
    rfl
theorem cln_tup {n : Nat} {xs : List PV} (h : ∀ x ∈ xs, cln n x = true) : cln (n + 1) (.tup xs) = true := by
  unfold cln
  exact clns_all h
theorem cln_lst {n : Nat} {xs : List PV} (h : ∀ x ∈ xs, cln n x = true) : cln (n + 1) (.lst xs) = true := by
  unfold cln
  exact clns_all h
mutual
theorem cln_le : ∀ (p : PV) (n m : Nat), n ≤ m → cln n p = true → cln m p = true
  | .non, _, _, _, _ => by simp [cln]
  | .int i, _, _, _, _ => by simp [cln]
  | .str s, _, _, _, h => by simpa [cln] using h
  | .tup xs, 0, _, _, h => by simp [cln] at h
  | .lst xs, 0, _, _, h => by simp [cln] at h
  | .tup xs, n + 1, 0, hl, h => by omega
  | .lst xs, n + 1, 0, hl, h => by omega
  | .tup xs, n + 1, m + 1, hl, h => by
    unfold cln at h ⊢
    exact clns_le xs n m (by omega) h
  | .lst xs, n + 1, m + 1, hl, h => by
    unfold cln at h ⊢
    exact clns_le xs n m (by omega) h
  | .bl b, n, _, _, h => by simp [cln] at h
  | .ref b, n, _, _, h => by simp [cln] at h
  | .fn b, n, _, _, h => by simp [cln] at h
  | .ty b, n, _, _, h => by simp [cln] at h
  | .scr b, n, _, _, h => by simp [cln] at h
theorem clns_le : ∀ (ps : List PV) (n m : Nat), n ≤ m → clns n ps = true → clns m ps = true
  | [], _, _, _, _ => by simp [clns]
  | p :: ps, n, m, hl, h => by
    unfold clns at h ⊢
    obtain ⟨h1, h2⟩ := Bool.and_eq_true_iff.mp h
    rw [cln_le p n m hl h1, clns_le ps n m hl h2]
    rfl
end
/-! ### repr -/
theorem sok_append {a b : Str} (h1 : PyData.strOk a = true) (h2 : PyData.strOk b = true) : PyData.strOk (a ++ b) = true := by
  unfold PyData.strOk at *
  have e : (a ++ b).cps = a.cps ++ b.cps := rfl
  rw [e, Array.all_append, h1, h2]
  rfl
theorem sok_of (s : String) : PyData.strOk (Str.ofString s) = true := by
  rw [Str.ofString_eq_toList]
  unfold PyData.strOk
  simp only [List.all_toArray, List.all_map, List.all_eq_true, Function.comp_apply, decide_eq_true_eq]
  intro c hc
  have := c.valid
  have h2 : c.toNat = c.val.toNat := rfl
  rw [h2]
  rcases this with h | ⟨_, h⟩
  · have : c.val.toNat < 0xd800 := h
    omega
  · have : c.val.toNat < 0x110000 := h
    omega
theorem sok_join {sep : Str} (hs : PyData.strOk sep = true) : ∀ {ts : List Str}, (∀ t ∈ ts, PyData.strOk t = true) → PyData.strOk (Str.join sep ts) = true
  | [], _ => by rw [Str.join]; simp [PyData.strOk, Str.empty]
  | [x], h => h x List.mem_cons_self
  | x :: y :: r, h => sok_append (sok_append (h x List.mem_cons_self) hs) (sok_join hs fun t ht => h t (List.mem_cons_of_mem _ ht))
theorem sok_from : ∀ {ts : List Str} {k : Nat} {acc : Str}, PyData.strOk acc = true → (∀ t ∈ ts, PyData.strOk t = true) → PyData.strOk (textFrom k acc ts) = true
  | [], k, acc, h, _ => h
  | t :: r, k, acc, h, h2 => sok_from (ts := r) (k := k + 1) (sok_append (sok_append h (sok_of _)) (h2 t List.mem_cons_self)) fun t ht => h2 t (List.mem_cons_of_mem _ ht)
theorem sok_tuple {ts : List Str} (h : ∀ t ∈ ts, PyData.strOk t = true) : PyData.strOk (tupleText ts) = true := sok_append (sok_append (sok_of _) (sok_join (sok_of _) h)) (sok_of _)
theorem sok_list {ts : List Str} (h : ∀ t ∈ ts, PyData.strOk t = true) : PyData.strOk (listText ts) = true := sok_append (sok_from (sok_of _) h) (sok_of _)
def Rsz (p : PV) (n : Nat) : Prop := ∃ d, dat p = some d ∧ d.showable = true ∧ d.shown.length ≤ n ∧ PyData.strOk d.shown = true
theorem Rsz.mono {p : PV} {n m : Nat} (h : Rsz p n) (hl : n ≤ m) : Rsz p m := by
  obtain ⟨d, e, s, l, o⟩ := h
  exact ⟨d, e, s, Nat.le_trans l hl, o⟩
theorem Rsz.non : Rsz .non 4 := ⟨_, rfl, rfl, by simp only [PyData.shown]; decide, by simp only [PyData.shown]; exact sok_of _⟩
theorem Rsz.int {i : Int} (h : i.natAbs < 10 ^ 20) : Rsz (.int i) 21 := by
  refine ⟨.int i, rfl, ?_, ?_, by simp only [PyData.shown]; exact sok_of _⟩
  · simp only [PyData.showable, decide_eq_true_eq]
    have h2 : i.natAbs < 2 ^ 128 := Nat.lt_of_lt_of_le h (by decide)
    by_cases h0 : i.natAbs = 0
    · rw [h0]; decide
    · have := (Nat.log2_lt h0).mpr h2
      omega
  · simp only [PyData.shown]
    show (Str.ofString (toString i)).length ≤ 21
    rw [ofString_length]
    exact int_text_length_le10 (k := 20) (by decide) h
theorem textFrom_up : ∀ (ts : List Str) (k : Nat) (acc : Str), (textFrom k acc ts).length ≤ acc.length + piled ts
  | [], k, acc => by
    show acc.length ≤ _
    omega
  | t :: r, k, acc => by
    have h := textFrom_up r (k + 1) (acc ++ (if k > 0 then ", " else "" : String) ++ t)
    have e : (acc ++ (if k > 0 then ", " else "" : String) ++ t).length = acc.length + (if k > 0 then 2 else 0) + t.length := by
      rw [strLen_append, strLen_append]
      split <;> rfl
    rw [e] at h
    rw [piled_cons]
    show (textFrom (k + 1) _ r).length ≤ _
    have : (if k > 0 then 2 else 0 : Nat) ≤ 2 := by split <;> omega
    omega
theorem tupleText_up (ts : List Str) : (tupleText ts).length ≤ 3 + piled ts := by
  unfold tupleText
  rw [strLen_append, strLen_append]
  have e1 : ((("(" : String) : Str)).length = 1 := rfl
  have e3 : (((if ts.length == 1 then ",)" else ")" : String) : Str)).length ≤ 2 := by split <;> decide
  rw [e1]
  by_cases h : ts = []
  · subst h
    have : (Str.join ", " []).length = 0 := rfl
    omega
  · have := join_length_add ts h
    omega
theorem listText_up (ts : List Str) : (listText ts).length ≤ 2 + piled ts := by
  unfold listText
  rw [strLen_append]
  have h := textFrom_up ts 0 "["
  have e1 : ((("[" : String) : Str)).length = 1 := rfl
  have e2 : ((("]" : String) : Str)).length = 1 := rfl
  rw [e2]
  rw [e1] at h
  omega
theorem rsz_all {c : Nat} : ∀ {xs : List PV}, (∀ x ∈ xs, Rsz x c) → ∃ ds, dats xs = some ds ∧ PyData.showableAll ds = true ∧ piled (PyData.shownAll ds) ≤ xs.length * (c + 2) ∧ ∀ t ∈ PyData.shownAll ds, PyData.strOk t = true
  | [], _ => ⟨[], rfl, rfl, by simp [PyData.shownAll, piled_nil], by simp [PyData.shownAll]⟩
  | x :: xs, h => by
    obtain ⟨d, e, s, l, o⟩ := h x List.mem_cons_self
    obtain ⟨ds, e2, s2, l2, o2⟩ := rsz_all fun y hy => h y (List.mem_cons_of_mem _ hy)
    refine ⟨d :: ds, by simp [dats, e, e2], by simp [PyData.showableAll, s, s2], ?_, ?_⟩
    · simp only [PyData.shownAll, piled_cons, List.length_cons, Nat.succ_mul]
      omega
    · intro t ht
      simp only [PyData.shownAll, List.mem_cons] at ht
      rcases ht with rfl | ht
      · exact o
      · exact o2 t ht
theorem Rsz.tup {c : Nat} {xs : List PV} (h : ∀ x ∈ xs, Rsz x c) : Rsz (.tup xs) (3 + xs.length * (c + 2)) := by
  obtain ⟨ds, e, s, l, o⟩ := rsz_all h
  refine ⟨.tuple ds, by simp [dat, e], by simpa [PyData.showable] using s, ?_, by simp only [PyData.shown]; exact sok_tuple o⟩
  simp only [PyData.shown]
  have := tupleText_up (PyData.shownAll ds)
  omega
theorem Rsz.lst {c : Nat} {xs : List PV} (h : ∀ x ∈ xs, Rsz x c) : Rsz (.lst xs) (2 + xs.length * (c + 2)) := by
  obtain ⟨ds, e, s, l, o⟩ := rsz_all h
  refine ⟨.list ds, by simp [dat, e], by simpa [PyData.showable] using s, ?_, by simp only [PyData.shown]; exact sok_list o⟩
  simp only [PyData.shown]
  have := listText_up (PyData.shownAll ds)
  omega
theorem reprP_of {M : Store} {p : PV} {n : Nat} (h : Rsz p n) (hc : cln 60 p = true) (hn : n ≤ sizeLine) : ∃ s, reprP M p = some (.str s) ∧ (PyData.str s).canLay0 = true := by
  obtain ⟨d, e, s, l, o⟩ := h
  obtain ⟨d', e', a, b⟩ := cln_dat p 60 hc
  rw [e] at e'
  cases e'
  have hd : d.hasDict = false := PyData.hasDict_of_canLay d a
  refine ⟨d.shown, ?_, ?_⟩
  · unfold reprP
    rw [cln_datM hc, e]
    dsimp only
    rw [if_pos (by simp only [s, hd, Bool.not_false, Bool.and_true, Bool.true_and, Bool.and_eq_true, decide_eq_true_eq]; omega)]
  · simpa [PyData.canLay0] using o
end DI
set_option maxHeartbeats 4000000
namespace DI
open PySem
/-! ### min of tuples of ints -/
def tupI (k : List Int) : PV := .tup (k.map .int)
def tupD (k : List Int) : PyData := .tuple (k.map .int)
theorem dats_ints : ∀ l : List Int, dats (l.map .int) = some (l.map .int)
  | [] => rfl
  | x :: l => by simp only [List.map_cons, dats, dat, dats_ints l]
theorem dat_tupI (k : List Int) : dat (tupI k) = some (tupD k) := by
  unfold tupI tupD
  simp only [dat, dats_ints]
  rfl
theorem dats_tupI : ∀ ks : List (List Int), dats (ks.map tupI) = some (ks.map tupD)
  | [] => rfl
  | k :: ks => by simp only [List.map_cons, dats, dat_tupI, dats_tupI ks]
theorem undats_ints : ∀ l : List Int, undats (l.map .int) = some (l.map .int)
  | [] => rfl
  | x :: l => by simp only [List.map_cons, undats, undat, undats_ints l]
theorem undat_tupD (k : List Int) : undat (tupD k) = some (tupI k) := by
  unfold tupI tupD
  simp only [undat, undats_ints]
  rfl
theorem alike_ints : ∀ x y : List Int, x.length = y.length → PySem.W.alikeAll (x.map .int) (y.map .int) = true
  | [], _, _ => by simp [PySem.W.alikeAll]
  | x :: xs, [], h => by simp at h
  | x :: xs, y :: ys, h => by
    simp only [List.map_cons, PySem.W.alikeAll, PySem.W.alike, Bool.true_and]
    exact alike_ints xs ys (by simpa using h)
theorem alike_tupD {x y : List Int} (h : x.length = y.length) : PySem.W.alike (tupD x) (tupD y) = true := by
  unfold tupD
  simp only [PySem.W.alike]
  exact alike_ints x y h
theorem lt_tupD (x y : List Int) : PySem.W.dataLt (tupD x) (tupD y) = decide (x < y) := by
  unfold tupD
  rw [PySem.W.dataLt_tuple]
  exact PySem.W.dataLt_ints x y
theorem lay_ints : ∀ l : List Int, PyData.canLayAll0 (l.map .int) = true
  | [] => rfl
  | x :: l => by simp [PyData.canLayAll0, PyData.canLay0, lay_ints l]
theorem depth_ints : ∀ l : List Int, PyData.depthAll (l.map .int) = 0
  | [] => by simp [PyData.depthAll]
  | x :: l => by simp [PyData.depthAll, PyData.depth, depth_ints l]
theorem depth_tupD : ∀ ks : List (List Int), PyData.depthAll (ks.map tupD) ≤ 1
  | [] => by simp [PyData.depthAll]
  | x :: l => by
    have h := depth_tupD l
    have e : (tupD x).depth = 1 := by
      unfold tupD
      simp [PyData.depth, depth_ints]
    simp only [List.map_cons, PyData.depthAll, e]
    omega
theorem minD_tupD : ∀ (ks : List (List Int)) (k : List Int), ∃ m, PySem.W.minD (tupD k) (ks.map tupD) = tupD m ∧ m ∈ k :: ks ∧ ∀ y ∈ k :: ks, ¬ y < m
  | [], k => ⟨k, rfl, by simp, by simp⟩
  | y :: ks, k => by
    unfold PySem.W.minD
    rw [List.map_cons, List.foldl_cons, lt_tupD]
    by_cases h : y < k
    · obtain ⟨m, e, h1, h2⟩ := minD_tupD ks y
      unfold PySem.W.minD at e
      rw [if_pos (decide_eq_true h)]
      refine ⟨m, e, ?_, ?_⟩
      · rcases List.mem_cons.mp h1 with q | q
        · subst q; simp
        · simp [q]
      · intro z hz
        rcases List.mem_cons.mp hz with q | q
        · subst q
          intro hk
          exact h2 y List.mem_cons_self (List.lt_trans h hk)
        · exact h2 z q
    · obtain ⟨m, e, h1, h2⟩ := minD_tupD ks k
      unfold PySem.W.minD at e
      rw [if_neg (by simpa using h)]
      refine ⟨m, e, ?_, ?_⟩
      · rcases List.mem_cons.mp h1 with q | q
        · subst q; simp
        · simp [q]
      · intro z hz
        rcases List.mem_cons.mp hz with q | q
        · subst q
          exact h2 z List.mem_cons_self
        · rcases List.mem_cons.mp q with q | q
          · subst q
            intro hk
            have h3 := h2 k List.mem_cons_self
            have h4 : m ≤ k := List.not_lt.mp h3
            have h5 : k ≤ z := List.not_lt.mp h
            have h6 : ¬ z < m := List.not_lt.mpr (List.le_trans h4 h5)
            exact h6 hk
          · exact h2 z (List.mem_cons_of_mem _ q)
theorem intsOf_tupI (k : List Int) (ks : List (List Int)) : intsOf ((k :: ks).map tupI) = none := by
  simp only [List.map_cons, tupI, intsOf]
theorem minL_tup {d : Nat} (ks : List (List Int)) (hk : ks ≠ []) (hd : ∀ k ∈ ks, k.length = d) : ∃ m, minDL (ks.map tupI) = some (tupI m) ∧ m ∈ ks ∧ ∀ y ∈ ks, ¬ y < m := by
  cases ks with
  | nil => exact absurd rfl hk
  | cons k ks =>
    obtain ⟨m, e, h1, h2⟩ := minD_tupD ks k
    refine ⟨m, ?_, h1, h2⟩
    unfold minDL
    rw [dats_tupI]
    simp only [List.map_cons]
    have hok : okMM (tupD k :: ks.map tupD) = true := by
      unfold okMM
      have hdep : PyData.depthAll (tupD k :: ks.map tupD) ≤ 1 := depth_tupD (k :: ks)
      rw [decide_eq_true (by omega), Bool.and_true, List.all_eq_true]
      intro x hx
      have hx' : x ∈ (k :: ks).map tupD := hx
      obtain ⟨a, ha, rfl⟩ := List.mem_map.mp hx'
      have h1 : (tupD a).canLay0 = true := by
        unfold tupD
        simp [PyData.canLay0, lay_ints]
      have h3 : notNone (tupD a) = true := rfl
      rw [h1, h3, Bool.and_true, Bool.and_true, List.all_eq_true]
      intro y hy
      have hy' : y ∈ (k :: ks).map tupD := hy
      obtain ⟨b, hb, rfl⟩ := List.mem_map.mp hy'
      exact alike_tupD (by rw [hd a ha, hd b hb])
    rw [if_pos hok, e, undat_tupD]
theorem biMinT {M : Store} {n d : Nat} (ks : List (List Int)) (hl : lstAt M n = some (ks.map tupI)) (hk : ks ≠ []) (hd : ∀ k ∈ ks, k.length = d) : ∃ m, biP .min M [.ref n] = some (tupI m) ∧ m ∈ ks ∧ ∀ y ∈ ks, ¬ y < m := by
  obtain ⟨m, e, h⟩ := minL_tup ks hk hd
  refine ⟨m, ?_, h⟩
  show minL M (.ref n) = _
  have hi : itemsL M (.ref n) = some (ks.map tupI) := hl
  unfold minL
  rw [hi]
  cases ks with
  | nil => exact absurd rfl hk
  | cons k ks =>
    dsimp only
    rw [intsOf_tupI]
    exact e
theorem datM_ref {M : Store} {n : Nat} {xs : List PV} (h : lstAt M n = some xs) : datM M (.ref n) = datM M (.lst xs) := by
  unfold lstAt at h
  split at h
  · rename_i ys hy
    cases h
    unfold datM
    simp only [hy, dat]
  · cases h
theorem neP_ref {M : Store} {n : Nat} {xs : List PV} {q : PV} (h : lstAt M n = some xs) : neP M (.ref n) q = neP M (.lst xs) q := by
  unfold neP
  rw [datM_ref h]
theorem eqP_ref {M : Store} {n : Nat} {xs : List PV} {q : PV} (h : lstAt M n = some xs) : eqP M (.ref n) q = eqP M (.lst xs) q := by
  unfold eqP
  rw [datM_ref h]
theorem cln_tupI (k : List Int) (n : Nat) : cln (n + 1) (tupI k) = true := by
  refine cln_tup fun x hx => ?_
  obtain ⟨i, _, rfl⟩ := List.mem_map.mp hx
  simp [cln]
end DI
set_option maxHeartbeats 0
namespace My
open PySem DI
def top (i : Nat) : Stmt := PySem.Challenge.pw_servedever_k05_rates_and_rules_of_logs.main.body.getD i (.Pass ⟨0, 0, 0, 0⟩)
def c_is_number : FnC := ⟨1, ["thing"], (.cons (.ret (.andE (.cons (.callB .isinst (.cons (.var 0) (.cons (.bty "int") .nil))) (.cons (.notE (.callB .isinst (.cons (.var 0) (.cons (.bty "bool") .nil)))) .nil)))) .nil)⟩
def c_is_index : FnC := ⟨1, ["thing"], (.cons (.ret (.andE (.cons (.call 0 (.cons (.var 0) .nil)) (.cons (.cmp .GtE (.var 0) (.int 0)) .nil)))) .nil)⟩
def c_is_sized : FnC := ⟨2, ["thing", "many"], (.cons (.ret (.andE (.cons (.callB .isinst (.cons (.var 0) (.cons (.bty "tuple") .nil))) (.cons (.cmp .Eq (.callB .len (.cons (.var 0) .nil)) (.var 1)) .nil)))) .nil)⟩
def c_is_tuple_of : FnC := ⟨2, ["thing", "is_one", "one"], (.cons (.ret (.andE (.cons (.callB .isinst (.cons (.var 0) (.cons (.bty "tuple") .nil))) (.cons (.callB .all (.cons (.comp [("one", 2)] (.name 2) (.seq (.var 0)) none (.callV 1 (.cons (.var 2) .nil))) .nil)) .nil)))) .nil)⟩
def c_common_divisor : FnC := ⟨2, ["one", "other"], (.cons (.par [0, 1] (.cons (.callB .abs (.cons (.var 0) .nil)) (.cons (.callB .abs (.cons (.var 1) .nil)) .nil))) (.cons (.whileS (.cmp .NotEq (.var 1) (.int 0)) (.cons (.par [0, 1] (.cons (.var 1) (.cons (.bin .Mod (.var 0) (.var 1)) .nil))) .nil)) (.cons (.ret (.var 0)) .nil)))⟩
def c_is_fraction : FnC := ⟨1, ["thing"], (.cons (.ite (.orE (.cons (.notE (.call 2 (.cons (.var 0) (.cons (.int 2) .nil)))) (.cons (.notE (.call 3 (.cons (.var 0) (.cons (.fn 0) .nil)))) (.cons (.cmp .Lt (.idx (.var 0) (.int 1)) (.int 1)) .nil)))) (.cons (.ret (.bl false)) .nil) .nil) (.cons (.ret (.cmp .Eq (.call 4 (.cons (.idx (.var 0) (.int 0)) (.cons (.idx (.var 0) (.int 1)) .nil))) (.int 1))) .nil))⟩
def c_great : FnC := ⟨0, ["found", "_figure"], (.cons (.asg (.name 0) (.int 1)) (.cons (.forS (.name 1) (.rng1 (.glob 0)) (.cons (.aug 0 .Mult (.int 10)) .nil)) (.cons (.ret (.var 0)) .nil)))⟩
def c_is_told_fraction : FnC := ⟨1, ["thing", "bound"], (.cons (.asg (.name 1) (.call 6 .nil)) (.cons (.ret (.andE (.cons (.call 5 (.cons (.var 0) .nil)) (.cons (.cmp2 .Lt .Lt (.neg (.var 1)) (.idx (.var 0) (.int 0)) (.var 1)) (.cons (.cmp .Lt (.idx (.var 0) (.int 1)) (.var 1)) .nil))))) .nil))⟩
def c_is_indexes : FnC := ⟨1, ["thing"], (.cons (.ret (.call 3 (.cons (.var 0) (.cons (.fn 1) .nil)))) .nil)⟩
def c_is_weights : FnC := ⟨1, ["thing"], (.cons (.ret (.call 3 (.cons (.var 0) (.cons (.fn 7) .nil)))) .nil)⟩
def c_is_rate_form : FnC := ⟨1, ["thing"], (.cons (.ret (.andE (.cons (.call 2 (.cons (.var 0) (.cons (.int 2) .nil))) (.cons (.call 9 (.cons (.var 0) .nil)) .nil)))) .nil)⟩
def c_is_bound_form : FnC := ⟨1, ["thing"], (.cons (.ret (.call 3 (.cons (.var 0) (.cons (.fn 10) .nil)))) .nil)⟩
def c_made : FnC := ⟨2, ["a", "b", "its"], (.cons (.ite (.orE (.cons (.notE (.call 0 (.cons (.var 0) .nil))) (.cons (.notE (.call 0 (.cons (.var 1) .nil))) (.cons (.cmp .Eq (.var 1) (.int 0)) .nil)))) (.cons (.raise 0 .nil) .nil) .nil) (.cons (.asg (.name 2) (.ife (.cmp .Gt (.var 1) (.int 0)) (.call 4 (.cons (.var 0) (.cons (.var 1) .nil))) (.neg (.call 4 (.cons (.var 0) (.cons (.var 1) .nil)))))) (.cons (.ret (.tup (.cons (.bin .FloorDiv (.var 0) (.var 2)) (.cons (.bin .FloorDiv (.var 1) (.var 2)) .nil)))) .nil)))⟩
def c_whole : FnC := ⟨1, ["n"], (.cons (.ret (.tup (.cons (.var 0) (.cons (.int 1) .nil)))) .nil)⟩
def c_added : FnC := ⟨2, ["one", "other"], (.cons (.ret (.call 12 (.cons (.bin .Add (.bin .Mult (.idx (.var 0) (.int 0)) (.idx (.var 1) (.int 1))) (.bin .Mult (.idx (.var 1) (.int 0)) (.idx (.var 0) (.int 1)))) (.cons (.bin .Mult (.idx (.var 0) (.int 1)) (.idx (.var 1) (.int 1))) .nil)))) .nil)⟩
def c_negative : FnC := ⟨1, ["one"], (.cons (.ret (.tup (.cons (.bin .Sub (.int 0) (.idx (.var 0) (.int 0))) (.cons (.idx (.var 0) (.int 1)) .nil)))) .nil)⟩
def c_less : FnC := ⟨2, ["one", "other"], (.cons (.ret (.call 14 (.cons (.var 0) (.cons (.call 15 (.cons (.var 1) .nil)) .nil)))) .nil)⟩
def c_times : FnC := ⟨2, ["one", "other"], (.cons (.ret (.call 12 (.cons (.bin .Mult (.idx (.var 0) (.int 0)) (.idx (.var 1) (.int 0))) (.cons (.bin .Mult (.idx (.var 0) (.int 1)) (.idx (.var 1) (.int 1))) .nil)))) .nil)⟩
def c_is_less : FnC := ⟨2, ["one", "other"], (.cons (.ret (.cmp .Lt (.bin .Mult (.idx (.var 0) (.int 0)) (.idx (.var 1) (.int 1))) (.bin .Mult (.idx (.var 1) (.int 0)) (.idx (.var 0) (.int 1))))) .nil)⟩
def c_greatest : FnC := ⟨1, ["some", "found", "one"], (.cons (.ite (.cmp .Eq (.callB .len (.cons (.var 0) .nil)) (.int 0)) (.cons (.raise 0 .nil) .nil) .nil) (.cons (.asg (.name 1) (.idx (.var 0) (.int 0))) (.cons (.forS (.name 2) (.seq (.var 0)) (.cons (.asg (.name 1) (.ife (.call 18 (.cons (.var 1) (.cons (.var 2) .nil))) (.var 2) (.var 1))) .nil)) (.cons (.ret (.var 1)) .nil))))⟩
def c_all_turns : FnC := ⟨3, ["streams", "services", "log", "lines", "found", "comes", "number", "full", "gone", "line", "come", "serve", "went"], (.cons (.par [3, 4] (.cons (.bin .Mult (.lst (.cons (.int 0) .nil)) (.callB .len (.cons (.var 0) .nil))) (.cons (.lstR .nil) .nil))) (.cons (.forS (.tup [(.name 5), (.name 6)]) (.seq (.var 2)) (.cons (.asgC 7 [("line", 9), ("come", 10)] (.tup [(.name 9), (.name 10)]) (.zip (.var 3) (.var 5)) none (.bin .Add (.var 9) (.var 10))) (.cons (.asgC 8 [("line", 9), ("serve", 11)] (.tup [(.name 9), (.name 11)]) (.zip (.var 7) (.idx (.var 1) (.var 6))) none (.callB .min (.cons (.var 9) (.cons (.var 11) .nil)))) (.cons (.asgC 3 [("line", 9), ("went", 12)] (.tup [(.name 9), (.name 12)]) (.zip (.var 7) (.var 8)) none (.bin .Sub (.var 9) (.var 12))) (.cons (.expr (.meth .append (.var 4) (.cons (.tup (.cons (.callB .tuple (.cons (.var 7) .nil)) (.cons (.callB .tuple (.cons (.var 8) .nil)) (.cons (.callB .tuple (.cons (.var 3) .nil)) .nil)))) .nil))) .nil))))) (.cons (.ret (.frz 4)) .nil)))⟩
def c_mean_rates : FnC := ⟨2, ["streams", "log", "at", "_stream", "comes", "number"], (.cons (.ite (.cmp .Eq (.var 1) (.tup .nil)) (.cons (.ret (.callB .tuple (.cons (.comp [("_stream", 3)] (.name 3) (.seq (.var 0)) none (.glob 1)) .nil))) .nil) .nil) (.cons (.ret (.callB .tuple (.cons (.comp [("at", 2)] (.name 2) (.rng1 (.callB .len (.cons (.var 0) .nil))) none (.call 12 (.cons (.callB .sum (.cons (.comp [("comes", 4), ("number", 5)] (.tup [(.name 4), (.name 5)]) (.seq (.var 1)) none (.idx (.var 4) (.var 2))) .nil)) (.cons (.callB .len (.cons (.var 1) .nil)) .nil)))) .nil))) .nil))⟩
def c_greatest_above : FnC := ⟨2, ["comes", "rate", "come", "found", "here"], (.cons (.par [3, 4] (.cons (.glob 1) (.cons (.glob 1) .nil))) (.cons (.forS (.name 2) (.seq (.var 0)) (.cons (.asg (.name 4) (.call 19 (.cons (.lst (.cons (.glob 1) (.cons (.call 14 (.cons (.var 4) (.cons (.call 16 (.cons (.call 13 (.cons (.var 2) .nil)) (.cons (.var 1) .nil))) .nil))) .nil))) .nil))) (.cons (.asg (.name 3) (.call 19 (.cons (.lst (.cons (.var 3) (.cons (.var 4) .nil))) .nil))) .nil))) (.cons (.ret (.var 3)) .nil)))⟩
def c_least_burst : FnC := ⟨2, ["comes", "rate", "come"], (.cons (.ite (.andE (.cons (.cmp .Eq (.var 1) (.glob 1)) (.cons (.notE (.callB .any (.cons (.comp [("come", 2)] (.name 2) (.seq (.var 0)) none (.cmp .Gt (.var 2) (.int 0))) .nil))) .nil))) (.cons (.ret (.glob 1)) .nil) .nil) (.cons (.ret (.call 19 (.cons (.lst (.cons (.glob 2) (.cons (.call 22 (.cons (.var 0) (.cons (.var 1) .nil))) .nil))) .nil))) .nil))⟩
def c_check_rates : FnC := ⟨2, ["streams", "rates", "rate"], (.cons (.ite (.orE (.cons (.notE (.call 3 (.cons (.var 1) (.cons (.fn 5) .nil)))) (.cons (.cmp .NotEq (.callB .len (.cons (.var 1) .nil)) (.callB .len (.cons (.var 0) .nil))) .nil))) (.cons (.raise 0 .nil) .nil) .nil) (.cons (.ite (.callB .any (.cons (.comp [("rate", 2)] (.name 2) (.seq (.var 1)) none (.call 18 (.cons (.var 2) (.cons (.glob 1) .nil)))) .nil)) (.cons (.raise 0 .nil) .nil) .nil) .nil))⟩
def c_least_bound : FnC := ⟨3, ["streams", "log", "rates", "found", "at", "rate", "comes", "number"], (.cons (.expr (.call 24 (.cons (.var 0) (.cons (.var 2) .nil)))) (.cons (.asg (.name 3) (.lstR .nil)) (.cons (.forS (.tup [(.name 4), (.name 5)]) (.enum (.var 2)) (.cons (.expr (.meth .append (.var 3) (.cons (.tup (.cons (.var 5) (.cons (.call 23 (.cons (.comp [("comes", 6), ("number", 7)] (.tup [(.name 6), (.name 7)]) (.seq (.var 1)) none (.idx (.var 6) (.var 4))) (.cons (.var 5) .nil))) .nil))) .nil))) .nil)) (.cons (.ret (.callB .tuple (.cons (.var 3) .nil))) .nil))))⟩
def c_is_passed : FnC := ⟨5, ["comes", "first", "last", "rate", "burst", "told"], (.cons (.asg (.name 5) (.callB .sum (.cons (.slc (.var 0) (some (.var 1)) (some (.bin .Add (.var 2) (.int 1)))) .nil))) (.cons (.ret (.call 18 (.cons (.call 14 (.cons (.var 4) (.cons (.call 17 (.cons (.call 13 (.cons (.bin .Sub (.bin .Add (.var 2) (.int 1)) (.var 1)) .nil)) (.cons (.var 3) .nil))) .nil))) (.cons (.call 13 (.cons (.var 5) .nil)) .nil)))) .nil))⟩
def c_first_of_stream : FnC := ⟨3, ["comes", "rate", "burst", "here", "last", "come", "firsts", "first"], (.cons (.asg (.name 3) (.glob 1)) (.cons (.forS (.tup [(.name 4), (.name 5)]) (.enum (.var 0)) (.cons (.asg (.name 3) (.call 14 (.cons (.call 19 (.cons (.lst (.cons (.glob 1) (.cons (.var 3) .nil))) .nil)) (.cons (.call 16 (.cons (.call 13 (.cons (.var 5) .nil)) (.cons (.var 1) .nil))) .nil)))) (.cons (.ite (.call 18 (.cons (.var 2) (.cons (.var 3) .nil))) (.cons (.asgC 6 [("first", 7)] (.name 7) (.rng1 (.bin .Add (.var 4) (.int 1))) (some (.call 26 (.cons (.var 0) (.cons (.var 7) (.cons (.var 4) (.cons (.var 1) (.cons (.var 2) .nil))))))) (.var 7)) (.cons (.ret (.tup (.cons (.var 4) (.cons (.idx (.var 6) (.int 0)) .nil)))) .nil)) .nil) .nil))) (.cons (.ret .non) .nil)))⟩
def c_first_passed : FnC := ⟨3, ["streams", "log", "bound", "found", "at", "told", "rate", "burst", "comes", "number"], (.cons (.ite (.orE (.cons (.notE (.call 11 (.cons (.var 2) .nil))) (.cons (.cmp .NotEq (.callB .len (.cons (.var 2) .nil)) (.callB .len (.cons (.var 0) .nil))) .nil))) (.cons (.raise 0 .nil) .nil) .nil) (.cons (.asg (.name 3) (.lstR .nil)) (.cons (.forS (.tup [(.name 4), (.tup [(.name 6), (.name 7)])]) (.enum (.var 2)) (.cons (.asg (.name 5) (.call 27 (.cons (.comp [("comes", 8), ("number", 9)] (.tup [(.name 8), (.name 9)]) (.seq (.var 1)) none (.idx (.var 8) (.var 4))) (.cons (.var 6) (.cons (.var 7) .nil))))) (.cons (.ite (.cmp .IsNot (.var 5) .non) (.cons (.expr (.meth .append (.var 3) (.cons (.tup (.star (.var 5) (.cons (.var 4) .nil))) .nil))) .nil) .nil) .nil))) (.cons (.ret (.ife (.cmp .NotEq (.var 3) (.lst .nil)) (.callB .min (.cons (.var 3) .nil)) .non)) .nil))))⟩
def c_follows_frame : FnC := ⟨2, ["log", "frame", "at", "comes", "number"], (.cons (.ite (.orE (.cons (.notE (.call 8 (.cons (.var 1) .nil))) (.cons (.cmp .Eq (.var 1) (.tup .nil)) .nil))) (.cons (.ret (.bl false)) .nil) .nil) (.cons (.ret (.callB .all (.cons (.comp [("at", 2), ("comes", 3), ("number", 4)] (.tup [(.name 2), (.tup [(.name 3), (.name 4)])]) (.enum (.var 0)) none (.cmp .Eq (.var 4) (.idx (.var 1) (.bin .Mod (.var 2) (.callB .len (.cons (.var 1) .nil)))))) .nil))) .nil))⟩
def c_weight_of : FnC := ⟨2, ["lines", "service", "line", "serve"], (.cons (.ret (.callB .sum (.cons (.comp [("line", 2), ("serve", 3)] (.tup [(.name 2), (.name 3)]) (.zip (.var 0) (.var 1)) none (.bin .Mult (.var 2) (.var 3))) .nil))) .nil)⟩
def c_off_weight_at : FnC := ⟨3, ["streams", "services", "log", "turns", "at", "weights", "full", "gone", "lines", "service"], (.cons (.asg (.name 3) (.call 20 (.cons (.var 0) (.cons (.var 1) (.cons (.var 2) .nil))))) (.cons (.forS (.tup [(.name 4), (.tup [(.name 6), (.name 7), (.name 8)])]) (.enum (.var 3)) (.cons (.asgC 5 [("service", 9)] (.name 9) (.seq (.var 1)) none (.call 30 (.cons (.var 6) (.cons (.var 9) .nil)))) (.cons (.ite (.cmp .Lt (.idx (.var 5) (.idx (.idx (.var 2) (.var 4)) (.int 1))) (.callB .max (.cons (.var 5) .nil))) (.cons (.ret (.var 4)) .nil) .nil) .nil))) (.cons (.ret .non) .nil)))⟩
def c__law_bag : FnC := ⟨1, ["script", "cell"], (.cons (.ret (.lstR (.cons (.int 0) (.cons (.int 1234567891) (.cons (.int 0) (.cons (.comp [("cell", 1)] (.name 1) (.seq (.slc (.var 0) none (some (.int 63)))) none (.callB .abs (.cons (.var 1) .nil))) .nil)))))) .nil)⟩
def c__law_take : FnC := ⟨2, ["bag", "many", "begin", "second", "cell", "stirred", "value"], (.cons (.ite (.cmp .Eq (.idx (.var 0) (.int 0)) (.int 0)) (.cons (.asg (.name 4) (.idx (.bin .Add (.slc (.idx (.var 0) (.int 3)) (some (.idx (.var 0) (.int 2))) none) (.lst (.cons (.int 0) .nil))) (.int 0))) (.cons (.augI (.var 0) (.int 2) .Add (.int 1)) (.cons (.ite (.cmp .GtE (.var 4) (.bin .Pow (.int 10) (.int 18))) (.cons (.asgI (.var 0) (.int 0) (.var 4)) .nil) .nil) (.cons (.asg (.name 5) (.bin .Add (.bin .Add (.bin .Mult (.idx (.var 0) (.int 1)) (.int 48271)) (.bin .Mod (.callB .int (.cons (.var 4) .nil)) (.int 2147483647))) (.bin .Mult (.int 7919) (.idx (.var 0) (.int 2))))) (.cons (.asgI (.var 0) (.int 1) (.bin .Mod (.callB .int (.cons (.var 5) .nil)) (.int 2147483647))) .nil))))) .nil) (.cons (.ite (.cmp .Gt (.idx (.var 0) (.int 0)) (.int 0)) (.cons (.asg (.name 6) (.bin .Mod (.callB .int (.cons (.idx (.var 0) (.int 0)) .nil)) (.var 1))) (.cons (.asgI (.var 0) (.int 0) (.bin .FloorDiv (.callB .int (.cons (.idx (.var 0) (.int 0)) .nil)) (.var 1))) (.cons (.ret (.var 6)) .nil))) .nil) (.cons (.asg (.name 2) (.bin .Mod (.callB .int (.cons (.bin .Mult (.bin .Add (.idx (.var 0) (.int 1)) (.int 1)) (.int 39373)) .nil)) (.int 1000000007))) (.cons (.asg (.name 3) (.bin .Mod (.callB .int (.cons (.bin .Mult (.bin .Mod (.callB .int (.cons (.bin .Mult (.var 2) (.var 2)) .nil)) (.int 998244353)) (.int 30011)) .nil)) (.int 998244353))) (.cons (.ret (.bin .Mod (.callB .int (.cons (.bin .FloorDiv (.var 3) (.int 7)) .nil)) (.var 1))) .nil)))))⟩
def c__law_some : FnC := ⟨2, ["bag", "things"], (.cons (.ret (.idx (.var 1) (.call 33 (.cons (.var 0) (.cons (.callB .len (.cons (.var 1) .nil)) .nil))))) .nil)⟩
def c__law_alike : FnC := ⟨2, ["found", "due"], (.cons (.ret (.andE (.cons (.cmp .Eq (.callB .repr (.cons (.var 0) .nil)) (.callB .repr (.cons (.var 1) .nil))) (.cons (.cmp .Eq (.var 0) (.var 1)) .nil)))) .nil)⟩
def c__law_made : FnC := ⟨2, ["a", "b", "one", "other"], (.cons (.par [2, 3] (.cons (.callB .abs (.cons (.var 0) .nil)) (.cons (.callB .abs (.cons (.var 1) .nil)) .nil))) (.cons (.whileS (.cmp .NotEq (.var 3) (.int 0)) (.cons (.par [2, 3] (.cons (.var 3) (.cons (.bin .Mod (.var 2) (.var 3)) .nil))) .nil)) (.cons (.ret (.ife (.cmp .Gt (.var 1) (.int 0)) (.tup (.cons (.bin .FloorDiv (.var 0) (.var 2)) (.cons (.bin .FloorDiv (.var 1) (.var 2)) .nil))) (.tup (.cons (.bin .Sub (.int 0) (.bin .FloorDiv (.var 0) (.var 2))) (.cons (.bin .Sub (.int 0) (.bin .FloorDiv (.var 1) (.var 2))) .nil))))) .nil)))⟩
def c__law_add : FnC := ⟨2, ["one", "other"], (.cons (.ret (.call 36 (.cons (.bin .Add (.bin .Mult (.idx (.var 0) (.int 0)) (.idx (.var 1) (.int 1))) (.bin .Mult (.idx (.var 1) (.int 0)) (.idx (.var 0) (.int 1)))) (.cons (.bin .Mult (.idx (.var 0) (.int 1)) (.idx (.var 1) (.int 1))) .nil)))) .nil)⟩
def c__law_mul : FnC := ⟨2, ["one", "other"], (.cons (.ret (.call 36 (.cons (.bin .Mult (.idx (.var 0) (.int 0)) (.idx (.var 1) (.int 0))) (.cons (.bin .Mult (.idx (.var 0) (.int 1)) (.idx (.var 1) (.int 1))) .nil)))) .nil)⟩
def c__law_neg : FnC := ⟨1, ["one"], (.cons (.ret (.tup (.cons (.bin .Sub (.int 0) (.idx (.var 0) (.int 0))) (.cons (.idx (.var 0) (.int 1)) .nil)))) .nil)⟩
def c__law_below : FnC := ⟨2, ["one", "other"], (.cons (.ret (.cmp .Lt (.bin .Mult (.idx (.var 0) (.int 0)) (.idx (.var 1) (.int 1))) (.bin .Mult (.idx (.var 1) (.int 0)) (.idx (.var 0) (.int 1))))) .nil)⟩
def c__law_streams : FnC := ⟨2, ["bag", "most"], (.cons (.ret (.slc (.tup (.cons (.str "a") (.cons (.str "b") (.cons (.str "c") (.cons (.str "d") (.cons (.str "e") .nil)))))) none (some (.bin .Add (.int 1) (.call 33 (.cons (.var 0) (.cons (.var 1) .nil))))))) .nil)⟩
def c__law_services : FnC := ⟨2, ["bag", "many", "k", "j"], (.cons (.ret (.callB .tuple (.cons (.sset (.comp [("k", 2)] (.name 2) (.rng1 (.bin .Add (.int 1) (.call 33 (.cons (.var 0) (.cons (.int 4) .nil))))) none (.callB .tuple (.cons (.comp [("j", 3)] (.name 3) (.rng1 (.var 1)) none (.call 34 (.cons (.var 0) (.cons (.lst (.cons (.int 0) (.cons (.int 0) (.cons (.int 1) (.cons (.int 1) (.cons (.int 2) (.cons (.int 3) .nil))))))) .nil)))) .nil)))) .nil))) .nil)⟩
def c__law_rate : FnC := ⟨1, ["bag"], (.cons (.ret (.call 34 (.cons (.var 0) (.cons (.lst (.cons (.tup (.cons (.int 0) (.cons (.int 1) .nil))) (.cons (.tup (.cons (.int 1) (.cons (.int 1) .nil))) (.cons (.tup (.cons (.int 1) (.cons (.int 2) .nil))) (.cons (.tup (.cons (.int 1) (.cons (.int 3) .nil))) (.cons (.tup (.cons (.int 2) (.cons (.int 3) .nil))) (.cons (.tup (.cons (.int 3) (.cons (.int 2) .nil))) (.cons (.tup (.cons (.int 1) (.cons (.int 4) .nil))) (.cons (.tup (.cons (.int 2) (.cons (.int 1) .nil))) .nil))))))))) .nil)))) .nil)⟩
def c__law_bound : FnC := ⟨2, ["bag", "many", "found", "k", "rate", "bursts"], (.cons (.asg (.name 2) (.lstR .nil)) (.cons (.forS (.name 3) (.rng1 (.var 1)) (.cons (.asg (.name 4) (.call 43 (.cons (.var 0) .nil))) (.cons (.asg (.name 5) (.bin .Add (.lst (.cons (.tup (.cons (.int 1) (.cons (.int 1) .nil))) (.cons (.tup (.cons (.int 1) (.cons (.int 1) .nil))) (.cons (.tup (.cons (.int 2) (.cons (.int 1) .nil))) (.cons (.tup (.cons (.int 3) (.cons (.int 2) .nil))) .nil))))) (.ife (.cmp .Eq (.var 4) (.tup (.cons (.int 0) (.cons (.int 1) .nil)))) (.bin .Mult (.lst (.cons (.tup (.cons (.int 0) (.cons (.int 1) .nil))) .nil)) (.int 4)) (.lst .nil)))) (.cons (.expr (.meth .append (.var 2) (.cons (.tup (.cons (.var 4) (.cons (.call 34 (.cons (.var 0) (.cons (.var 5) .nil))) .nil))) .nil))) .nil)))) (.cons (.ret (.callB .tuple (.cons (.var 2) .nil))) .nil)))⟩
def c__law_log : FnC := ⟨4, ["bag", "many", "services", "most", "k", "j"], (.cons (.ret (.callB .tuple (.cons (.comp [("k", 4)] (.name 4) (.rng1 (.call 33 (.cons (.var 0) (.cons (.bin .Add (.var 3) (.int 1)) .nil)))) none (.tup (.cons (.callB .tuple (.cons (.comp [("j", 5)] (.name 5) (.rng1 (.var 1)) none (.call 34 (.cons (.var 0) (.cons (.lst (.cons (.int 0) (.cons (.int 0) (.cons (.int 1) (.cons (.int 1) (.cons (.int 2) (.cons (.int 3) .nil))))))) .nil)))) .nil)) (.cons (.call 33 (.cons (.var 0) (.cons (.var 2) .nil))) .nil)))) .nil))) .nil)⟩
def c__law_come_to : FnC := ⟨4, ["way", "streams", "log", "thing"], (.cons (.tryS (.cons (.ret (.tup (.cons (.str "told") (.cons (.ife (.cmp .Eq (.var 0) (.int 0)) (.call 25 (.cons (.var 1) (.cons (.var 2) (.cons (.var 3) .nil)))) (.call 28 (.cons (.var 1) (.cons (.var 2) (.cons (.var 3) .nil))))) .nil)))) .nil) [⟨0, none, (.ret (.tup [(.str "nothing")]))⟩]) .nil)⟩
def c__law_burst : FnC := ⟨2, ["comes", "rate", "most", "first", "last", "its"], (.cons (.asg (.name 2) (.tup (.cons (.int 0) (.cons (.int 1) .nil)))) (.cons (.forS (.name 3) (.rng1 (.callB .len (.cons (.var 0) .nil))) (.cons (.forS (.name 4) (.rng2 (.var 3) (.callB .len (.cons (.var 0) .nil))) (.cons (.asg (.name 5) (.call 37 (.cons (.tup (.cons (.callB .sum (.cons (.slc (.var 0) (some (.var 3)) (some (.bin .Add (.var 4) (.int 1)))) .nil)) (.cons (.int 1) .nil))) (.cons (.call 39 (.cons (.call 38 (.cons (.var 1) (.cons (.tup (.cons (.bin .Sub (.bin .Add (.var 4) (.int 1)) (.var 3)) (.cons (.int 1) .nil))) .nil))) .nil)) .nil)))) (.cons (.asg (.name 2) (.ife (.call 40 (.cons (.var 2) (.cons (.var 5) .nil))) (.var 5) (.var 2))) .nil))) .nil)) (.cons (.ite (.andE (.cons (.cmp .Eq (.var 1) (.tup (.cons (.int 0) (.cons (.int 1) .nil)))) (.cons (.cmp .Eq (.callB .sum (.cons (.var 0) .nil)) (.int 0)) .nil))) (.cons (.ret (.tup (.cons (.int 0) (.cons (.int 1) .nil)))) .nil) .nil) (.cons (.ret (.ife (.call 40 (.cons (.var 2) (.cons (.tup (.cons (.int 1) (.cons (.int 1) .nil))) .nil))) (.tup (.cons (.int 1) (.cons (.int 1) .nil))) (.var 2))) .nil))))⟩
def c__law_passed : FnC := ⟨2, ["log", "bound", "last", "first", "k", "comes", "rate", "burst", "one"], (.cons (.forS (.name 2) (.rng1 (.callB .len (.cons (.var 0) .nil))) (.cons (.forS (.name 3) (.rng1 (.bin .Add (.var 2) (.int 1))) (.cons (.forS (.tup [(.name 4), (.tup [(.name 6), (.name 7)])]) (.enum (.var 1)) (.cons (.asg (.name 5) (.tup (.cons (.callB .sum (.cons (.comp [("one", 8)] (.name 8) (.seq (.slc (.var 0) (some (.var 3)) (some (.bin .Add (.var 2) (.int 1))))) none (.idx (.idx (.var 8) (.int 0)) (.var 4))) .nil)) (.cons (.int 1) .nil)))) (.cons (.ite (.call 40 (.cons (.call 37 (.cons (.var 7) (.cons (.call 38 (.cons (.var 6) (.cons (.tup (.cons (.bin .Sub (.bin .Add (.var 2) (.int 1)) (.var 3)) (.cons (.int 1) .nil))) .nil))) .nil))) (.cons (.var 5) .nil))) (.cons (.ret (.tup (.cons (.var 2) (.cons (.var 3) (.cons (.var 4) .nil))))) .nil) .nil) .nil))) .nil)) .nil)) (.cons (.ret .non) .nil))⟩
def c__law_off : FnC := ⟨3, ["services", "log", "many", "lies", "turn", "heaps", "weights", "comes", "number", "service", "lie", "come", "heap", "its"], (.cons (.asg (.name 3) (.bin .Mult (.lst (.cons (.int 0) .nil)) (.var 2))) (.cons (.forS (.tup [(.name 4), (.tup [(.name 7), (.name 8)])]) (.enum (.var 1)) (.cons (.asg (.name 5) (.comp [("lie", 10), ("come", 11)] (.tup [(.name 10), (.name 11)]) (.zip (.var 3) (.var 7)) none (.bin .Add (.var 10) (.var 11)))) (.cons (.asgC 6 [("service", 9)] (.name 9) (.seq (.var 0)) none (.callB .sum (.cons (.comp [("heap", 12), ("its", 13)] (.tup [(.name 12), (.name 13)]) (.zip (.var 5) (.var 9)) none (.bin .Mult (.var 12) (.var 13))) .nil))) (.cons (.ite (.cmp .Lt (.idx (.var 6) (.var 8)) (.callB .max (.cons (.var 6) .nil))) (.cons (.ret (.var 4)) .nil) .nil) (.cons (.asgC 3 [("heap", 12), ("its", 13)] (.tup [(.name 12), (.name 13)]) (.zip (.var 5) (.idx (.var 0) (.var 8))) none (.callB .max (.cons (.int 0) (.cons (.bin .Sub (.var 12) (.var 13)) .nil)))) .nil))))) (.cons (.ret .non) .nil)))⟩
def c_law : FnC := ⟨1, ["script", "bag", "turn", "streams", "many", "services", "log", "means", "rates", "due", "bound", "told", "bad", "frame", "numbers", "led", "other", "its", "found", "k", "one", "comes", "number", "rate"], (.cons (.asg (.name 1) (.call 32 (.cons (.var 0) .nil))) (.cons (.forS (.name 2) (.rng1 (.int 7)) (.cons (.asg (.name 3) (.call 41 (.cons (.var 1) (.cons (.int 3) .nil)))) (.cons (.asg (.name 4) (.callB .len (.cons (.var 3) .nil))) (.cons (.asg (.name 5) (.call 42 (.cons (.var 1) (.cons (.var 4) .nil)))) (.cons (.asg (.name 6) (.call 45 (.cons (.var 1) (.cons (.var 4) (.cons (.callB .len (.cons (.var 5) .nil)) (.cons (.int 10) .nil)))))) (.cons (.asg (.name 7) (.callB .tuple (.cons (.comp [("k", 19)] (.name 19) (.rng1 (.var 4)) none (.ife (.cmp .NotEq (.var 6) (.tup .nil)) (.call 36 (.cons (.callB .sum (.cons (.comp [("comes", 21), ("number", 22)] (.tup [(.name 21), (.name 22)]) (.seq (.var 6)) none (.idx (.var 21) (.var 19))) .nil)) (.cons (.callB .len (.cons (.var 6) .nil)) .nil))) (.tup (.cons (.int 0) (.cons (.int 1) .nil))))) .nil))) (.cons (.asg (.name 8) (.call 34 (.cons (.var 1) (.cons (.lst (.cons (.var 7) (.cons (.callB .tuple (.cons (.comp [("k", 19)] (.name 19) (.rng1 (.var 4)) none (.call 43 (.cons (.var 1) .nil))) .nil)) (.cons (.bin .Mult (.tup (.cons (.tup (.cons (.int 0) (.cons (.int 1) .nil))) .nil)) (.var 4)) .nil)))) .nil)))) (.cons (.asg (.name 9) (.callB .tuple (.cons (.comp [("k", 19), ("rate", 23)] (.tup [(.name 19), (.name 23)]) (.enum (.var 8)) none (.tup (.cons (.var 23) (.cons (.call 47 (.cons (.comp [("comes", 21), ("number", 22)] (.tup [(.name 21), (.name 22)]) (.seq (.var 6)) none (.idx (.var 21) (.var 19))) (.cons (.var 23) .nil))) .nil)))) .nil))) (.cons (.ite (.notE (.call 35 (.cons (.lst (.cons (.call 21 (.cons (.var 3) (.cons (.var 6) .nil))) (.cons (.call 46 (.cons (.int 0) (.cons (.var 3) (.cons (.var 6) (.cons (.var 8) .nil))))) .nil))) (.cons (.lst (.cons (.var 7) (.cons (.tup (.cons (.str "told") (.cons (.var 9) .nil))) .nil))) .nil)))) (.cons (.ret (.bl false)) .nil) .nil) (.cons (.asg (.name 10) (.call 34 (.cons (.var 1) (.cons (.lst (.cons (.var 9) (.cons (.call 44 (.cons (.var 1) (.cons (.var 4) .nil))) (.cons (.call 44 (.cons (.var 1) (.cons (.var 4) .nil))) .nil)))) .nil)))) (.cons (.asg (.name 11) (.call 46 (.cons (.int 1) (.cons (.var 3) (.cons (.var 6) (.cons (.var 10) .nil)))))) (.cons (.ite (.orE (.cons (.notE (.call 35 (.cons (.var 11) (.cons (.tup (.cons (.str "told") (.cons (.call 48 (.cons (.var 6) (.cons (.var 10) .nil))) .nil))) .nil)))) (.cons (.andE (.cons (.cmp .Eq (.var 10) (.var 9)) (.cons (.cmp .NotEq (.var 11) (.tup (.cons (.str "told") (.cons .non .nil)))) .nil))) .nil))) (.cons (.ret (.bl false)) .nil) .nil) (.cons (.asg (.name 12) (.lst (.cons (.tup (.cons (.int 0) (.cons (.slc (.var 8) (some (.int 1)) none) .nil))) (.cons (.tup (.cons (.int 0) (.cons .non .nil))) (.cons (.tup (.cons (.int 0) (.cons (.bin .Mult (.tup (.cons (.tup (.cons (.neg (.int 1)) (.cons (.int 2) .nil))) .nil)) (.var 4)) .nil))) (.cons (.tup (.cons (.int 0) (.cons (.bin .Mult (.tup (.cons (.tup (.cons (.int 2) (.cons (.int 4) .nil))) .nil)) (.var 4)) .nil))) (.cons (.tup (.cons (.int 0) (.cons (.callB .list (.cons (.var 8) .nil)) .nil))) (.cons (.tup (.cons (.int 1) (.cons (.bin .Add (.var 10) (.var 10)) .nil))) (.cons (.tup (.cons (.int 1) (.cons .non .nil))) (.cons (.tup (.cons (.int 1) (.cons (.bin .Mult (.tup (.cons (.tup (.cons (.int 1) (.cons (.int 1) .nil))) .nil)) (.var 4)) .nil))) .nil)))))))))) (.cons (.ite (.cmp .NotEq (.comp [("one", 20)] (.name 20) (.seq (.var 12)) (some (.cmp .NotEq (.call 46 (.cons (.idx (.var 20) (.int 0)) (.cons (.var 3) (.cons (.var 6) (.cons (.idx (.var 20) (.int 1)) .nil))))) (.tup (.cons (.str "nothing") .nil)))) (.var 20)) (.lst .nil)) (.cons (.ret (.bl false)) .nil) .nil) (.cons (.asg (.name 13) (.callB .tuple (.cons (.comp [("k", 19)] (.name 19) (.rng1 (.bin .Add (.int 1) (.call 33 (.cons (.var 1) (.cons (.int 3) .nil))))) none (.call 33 (.cons (.var 1) (.cons (.callB .len (.cons (.var 5) .nil)) .nil)))) .nil))) (.cons (.asgC 14 [("comes", 21), ("number", 22)] (.tup [(.name 21), (.name 22)]) (.seq (.var 6)) none (.var 22)) (.cons (.asg (.name 15) (.callB .tuple (.cons (.comp [("k", 19), ("comes", 21), ("number", 22)] (.tup [(.name 19), (.tup [(.name 21), (.name 22)])]) (.enum (.var 6)) none (.tup (.cons (.var 21) (.cons (.idx (.var 13) (.bin .Mod (.var 19) (.callB .len (.cons (.var 13) .nil)))) .nil)))) .nil))) (.cons (.forS (.tup [(.name 16), (.name 17)]) (.seq (.tup (.cons (.tup (.cons (.var 6) (.cons (.var 14) .nil))) (.cons (.tup (.cons (.var 15) (.cons (.comp [("comes", 21), ("number", 22)] (.tup [(.name 21), (.name 22)]) (.seq (.var 15)) none (.var 22)) .nil))) .nil)))) (.cons (.asgC 9 [("one", 20)] (.name 20) (.seq (.tup (.cons (.var 13) (.cons (.bin .Add (.var 13) (.var 13)) (.cons (.tup (.cons (.int 0) .nil)) (.cons (.callB .tuple (.cons (.var 14) .nil)) .nil)))))) (some (.andE (.cons (.cmp .NotEq (.var 20) (.tup .nil)) (.cons (.cmp .Eq (.comp [("k", 19), ("number", 22)] (.tup [(.name 19), (.name 22)]) (.enum (.var 17)) (some (.cmp .NotEq (.var 22) (.idx (.var 20) (.bin .Mod (.var 19) (.callB .len (.cons (.var 20) .nil)))))) (.var 19)) (.lst .nil)) .nil)))) (.var 20)) (.cons (.asgC 18 [("one", 20)] (.name 20) (.seq (.tup (.cons (.var 13) (.cons (.bin .Add (.var 13) (.var 13)) (.cons (.tup (.cons (.int 0) .nil)) (.cons (.callB .tuple (.cons (.var 14) .nil)) .nil)))))) (some (.andE (.cons (.cmp .NotEq (.var 20) (.tup .nil)) (.cons (.cmp .Is (.call 29 (.cons (.var 16) (.cons (.var 20) .nil))) (.bl true)) .nil)))) (.var 20)) (.cons (.ite (.orE (.cons (.cmp .NotEq (.var 18) (.var 9)) (.cons (.cmp .NotEq (.comp [("one", 20)] (.name 20) (.seq (.tup (.cons (.tup .nil) (.cons .non (.cons (.lst (.cons (.int 0) .nil)) (.cons (.tup (.cons (.bl true) .nil)) (.cons (.tup (.cons (.neg (.int 1)) .nil)) (.cons (.tup (.cons (.str "a") .nil)) .nil)))))))) (some (.cmp .IsNot (.call 29 (.cons (.var 16) (.cons (.var 20) .nil))) (.bl false))) (.var 20)) (.lst .nil)) .nil))) (.cons (.ret (.bl false)) .nil) .nil) .nil)))) (.cons (.ite (.notE (.call 35 (.cons (.call 31 (.cons (.var 3) (.cons (.var 5) (.cons (.var 6) .nil)))) (.cons (.call 49 (.cons (.var 5) (.cons (.var 6) (.cons (.var 4) .nil)))) .nil)))) (.cons (.ret (.bl false)) .nil) .nil) .nil))))))))))))))))))) (.cons (.ret (.bl true)) .nil)))⟩
def d_is_number : DEnt := ⟨"is_number", top 6, ["thing"], c_is_number⟩
def d_is_index : DEnt := ⟨"is_index", top 7, ["thing"], c_is_index⟩
def d_is_sized : DEnt := ⟨"is_sized", top 8, ["thing", "many"], c_is_sized⟩
def d_is_tuple_of : DEnt := ⟨"is_tuple_of", top 9, ["thing", "is_one"], c_is_tuple_of⟩
def d_common_divisor : DEnt := ⟨"common_divisor", top 10, ["one", "other"], c_common_divisor⟩
def d_is_fraction : DEnt := ⟨"is_fraction", top 11, ["thing"], c_is_fraction⟩
def d_great : DEnt := ⟨"great", top 12, [], c_great⟩
def d_is_told_fraction : DEnt := ⟨"is_told_fraction", top 13, ["thing"], c_is_told_fraction⟩
def d_is_indexes : DEnt := ⟨"is_indexes", top 14, ["thing"], c_is_indexes⟩
def d_is_weights : DEnt := ⟨"is_weights", top 15, ["thing"], c_is_weights⟩
def d_is_rate_form : DEnt := ⟨"is_rate_form", top 16, ["thing"], c_is_rate_form⟩
def d_is_bound_form : DEnt := ⟨"is_bound_form", top 17, ["thing"], c_is_bound_form⟩
def d_made : DEnt := ⟨"made", top 21, ["a", "b"], c_made⟩
def d_whole : DEnt := ⟨"whole", top 22, ["n"], c_whole⟩
def d_added : DEnt := ⟨"added", top 23, ["one", "other"], c_added⟩
def d_negative : DEnt := ⟨"negative", top 24, ["one"], c_negative⟩
def d_less : DEnt := ⟨"less", top 25, ["one", "other"], c_less⟩
def d_times : DEnt := ⟨"times", top 26, ["one", "other"], c_times⟩
def d_is_less : DEnt := ⟨"is_less", top 27, ["one", "other"], c_is_less⟩
def d_greatest : DEnt := ⟨"greatest", top 28, ["some"], c_greatest⟩
def d_all_turns : DEnt := ⟨"all_turns", top 30, ["streams", "services", "log"], c_all_turns⟩
def d_mean_rates : DEnt := ⟨"mean_rates", top 32, ["streams", "log"], c_mean_rates⟩
def d_greatest_above : DEnt := ⟨"greatest_above", top 33, ["comes", "rate"], c_greatest_above⟩
def d_least_burst : DEnt := ⟨"least_burst", top 34, ["comes", "rate"], c_least_burst⟩
def d_check_rates : DEnt := ⟨"check_rates", top 35, ["streams", "rates"], c_check_rates⟩
def d_least_bound : DEnt := ⟨"least_bound", top 36, ["streams", "log", "rates"], c_least_bound⟩
def d_is_passed : DEnt := ⟨"is_passed", top 37, ["comes", "first", "last", "rate", "burst"], c_is_passed⟩
def d_first_of_stream : DEnt := ⟨"first_of_stream", top 38, ["comes", "rate", "burst"], c_first_of_stream⟩
def d_first_passed : DEnt := ⟨"first_passed", top 39, ["streams", "log", "bound"], c_first_passed⟩
def d_follows_frame : DEnt := ⟨"follows_frame", top 40, ["log", "frame"], c_follows_frame⟩
def d_weight_of : DEnt := ⟨"weight_of", top 41, ["lines", "service"], c_weight_of⟩
def d_off_weight_at : DEnt := ⟨"off_weight_at", top 42, ["streams", "services", "log"], c_off_weight_at⟩
def d__law_bag : DEnt := ⟨"_law_bag", top 44, ["script"], c__law_bag⟩
def d__law_take : DEnt := ⟨"_law_take", top 45, ["bag", "many"], c__law_take⟩
def d__law_some : DEnt := ⟨"_law_some", top 46, ["bag", "things"], c__law_some⟩
def d__law_alike : DEnt := ⟨"_law_alike", top 47, ["found", "due"], c__law_alike⟩
def d__law_made : DEnt := ⟨"_law_made", top 48, ["a", "b"], c__law_made⟩
def d__law_add : DEnt := ⟨"_law_add", top 49, ["one", "other"], c__law_add⟩
def d__law_mul : DEnt := ⟨"_law_mul", top 50, ["one", "other"], c__law_mul⟩
def d__law_neg : DEnt := ⟨"_law_neg", top 51, ["one"], c__law_neg⟩
def d__law_below : DEnt := ⟨"_law_below", top 52, ["one", "other"], c__law_below⟩
def d__law_streams : DEnt := ⟨"_law_streams", top 53, ["bag", "most"], c__law_streams⟩
def d__law_services : DEnt := ⟨"_law_services", top 54, ["bag", "many"], c__law_services⟩
def d__law_rate : DEnt := ⟨"_law_rate", top 55, ["bag"], c__law_rate⟩
def d__law_bound : DEnt := ⟨"_law_bound", top 56, ["bag", "many"], c__law_bound⟩
def d__law_log : DEnt := ⟨"_law_log", top 57, ["bag", "many", "services", "most"], c__law_log⟩
def d__law_come_to : DEnt := ⟨"_law_come_to", top 58, ["way", "streams", "log", "thing"], c__law_come_to⟩
def d__law_burst : DEnt := ⟨"_law_burst", top 59, ["comes", "rate"], c__law_burst⟩
def d__law_passed : DEnt := ⟨"_law_passed", top 60, ["log", "bound"], c__law_passed⟩
def d__law_off : DEnt := ⟨"_law_off", top 61, ["services", "log", "many"], c__law_off⟩
def d_law : DEnt := ⟨"law", top 62, ["script"], c_law⟩
def ents : List DEnt := [d_is_number, d_is_index, d_is_sized, d_is_tuple_of, d_common_divisor, d_is_fraction, d_great, d_is_told_fraction, d_is_indexes, d_is_weights, d_is_rate_form, d_is_bound_form, d_made, d_whole, d_added, d_negative, d_less, d_times, d_is_less, d_greatest, d_all_turns, d_mean_rates, d_greatest_above, d_least_burst, d_check_rates, d_least_bound, d_is_passed, d_first_of_stream, d_first_passed, d_follows_frame, d_weight_of, d_off_weight_at, d__law_bag, d__law_take, d__law_some, d__law_alike, d__law_made, d__law_add, d__law_mul, d__law_neg, d__law_below, d__law_streams, d__law_services, d__law_rate, d__law_bound, d__law_log, d__law_come_to, d__law_burst, d__law_passed, d__law_off, d_law]
def T : Tab where
  cst := [("MOST_FIGURES", (.int 12)), ("ZERO", (.tup [(.int 0), (.int 1)])), ("ONE", (.tup [(.int 1), (.int 1)]))]
  fnm := ents.map (·.nm)
  cnm := [("Nothing", [])]
  free := ["isinstance", "bool", "int", "len", "tuple", "all", "abs", "range", "zip", "min", "sum", "any", "enumerate", "max", "repr", "sorted", "set", "list"]
  exm := [(0, 0, true)]
  ex0 := [0]
-- CHECKS
theorem k_is_number : chkEnt T d_is_number = true := by decide +kernel
theorem b_is_number : DBinds d_is_number.nm d_is_number.st d_is_number.ps := fun _ _ _ _ _ _ us hl => match us, hl with | [_], _ => by with_unfolding_all rfl
theorem k_is_index : chkEnt T d_is_index = true := by decide +kernel
theorem b_is_index : DBinds d_is_index.nm d_is_index.st d_is_index.ps := fun _ _ _ _ _ _ us hl => match us, hl with | [_], _ => by with_unfolding_all rfl
theorem k_is_sized : chkEnt T d_is_sized = true := by decide +kernel
theorem b_is_sized : DBinds d_is_sized.nm d_is_sized.st d_is_sized.ps := fun _ _ _ _ _ _ us hl => match us, hl with | [_, _], _ => by with_unfolding_all rfl
theorem k_is_tuple_of : chkEnt T d_is_tuple_of = true := by decide +kernel
theorem b_is_tuple_of : DBinds d_is_tuple_of.nm d_is_tuple_of.st d_is_tuple_of.ps := fun _ _ _ _ _ _ us hl => match us, hl with | [_, _], _ => by with_unfolding_all rfl
theorem k_common_divisor : chkEnt T d_common_divisor = true := by decide +kernel
theorem b_common_divisor : DBinds d_common_divisor.nm d_common_divisor.st d_common_divisor.ps := fun _ _ _ _ _ _ us hl => match us, hl with | [_, _], _ => by with_unfolding_all rfl
theorem k_is_fraction : chkEnt T d_is_fraction = true := by decide +kernel
theorem b_is_fraction : DBinds d_is_fraction.nm d_is_fraction.st d_is_fraction.ps := fun _ _ _ _ _ _ us hl => match us, hl with | [_], _ => by with_unfolding_all rfl
theorem k_great : chkEnt T d_great = true := by decide +kernel
theorem b_great : DBinds d_great.nm d_great.st d_great.ps := fun _ _ _ _ _ _ us hl => match us, hl with | [], _ => by with_unfolding_all rfl
theorem k_is_told_fraction : chkEnt T d_is_told_fraction = true := by decide +kernel
theorem b_is_told_fraction : DBinds d_is_told_fraction.nm d_is_told_fraction.st d_is_told_fraction.ps := fun _ _ _ _ _ _ us hl => match us, hl with | [_], _ => by with_unfolding_all rfl
theorem k_is_indexes : chkEnt T d_is_indexes = true := by decide +kernel
theorem b_is_indexes : DBinds d_is_indexes.nm d_is_indexes.st d_is_indexes.ps := fun _ _ _ _ _ _ us hl => match us, hl with | [_], _ => by with_unfolding_all rfl
theorem k_is_weights : chkEnt T d_is_weights = true := by decide +kernel
theorem b_is_weights : DBinds d_is_weights.nm d_is_weights.st d_is_weights.ps := fun _ _ _ _ _ _ us hl => match us, hl with | [_], _ => by with_unfolding_all rfl
theorem k_is_rate_form : chkEnt T d_is_rate_form = true := by decide +kernel
theorem b_is_rate_form : DBinds d_is_rate_form.nm d_is_rate_form.st d_is_rate_form.ps := fun _ _ _ _ _ _ us hl => match us, hl with | [_], _ => by with_unfolding_all rfl
theorem k_is_bound_form : chkEnt T d_is_bound_form = true := by decide +kernel
theorem b_is_bound_form : DBinds d_is_bound_form.nm d_is_bound_form.st d_is_bound_form.ps := fun _ _ _ _ _ _ us hl => match us, hl with | [_], _ => by with_unfolding_all rfl
theorem k_made : chkEnt T d_made = true := by decide +kernel
theorem b_made : DBinds d_made.nm d_made.st d_made.ps := fun _ _ _ _ _ _ us hl => match us, hl with | [_, _], _ => by with_unfolding_all rfl
theorem k_whole : chkEnt T d_whole = true := by decide +kernel
theorem b_whole : DBinds d_whole.nm d_whole.st d_whole.ps := fun _ _ _ _ _ _ us hl => match us, hl with | [_], _ => by with_unfolding_all rfl
theorem k_added : chkEnt T d_added = true := by decide +kernel
theorem b_added : DBinds d_added.nm d_added.st d_added.ps := fun _ _ _ _ _ _ us hl => match us, hl with | [_, _], _ => by with_unfolding_all rfl
theorem k_negative : chkEnt T d_negative = true := by decide +kernel
theorem b_negative : DBinds d_negative.nm d_negative.st d_negative.ps := fun _ _ _ _ _ _ us hl => match us, hl with | [_], _ => by with_unfolding_all rfl
theorem k_less : chkEnt T d_less = true := by decide +kernel
theorem b_less : DBinds d_less.nm d_less.st d_less.ps := fun _ _ _ _ _ _ us hl => match us, hl with | [_, _], _ => by with_unfolding_all rfl
theorem k_times : chkEnt T d_times = true := by decide +kernel
theorem b_times : DBinds d_times.nm d_times.st d_times.ps := fun _ _ _ _ _ _ us hl => match us, hl with | [_, _], _ => by with_unfolding_all rfl
theorem k_is_less : chkEnt T d_is_less = true := by decide +kernel
theorem b_is_less : DBinds d_is_less.nm d_is_less.st d_is_less.ps := fun _ _ _ _ _ _ us hl => match us, hl with | [_, _], _ => by with_unfolding_all rfl
theorem k_greatest : chkEnt T d_greatest = true := by decide +kernel
theorem b_greatest : DBinds d_greatest.nm d_greatest.st d_greatest.ps := fun _ _ _ _ _ _ us hl => match us, hl with | [_], _ => by with_unfolding_all rfl
theorem k_all_turns : chkEnt T d_all_turns = true := by decide +kernel
theorem b_all_turns : DBinds d_all_turns.nm d_all_turns.st d_all_turns.ps := fun _ _ _ _ _ _ us hl => match us, hl with | [_, _, _], _ => by with_unfolding_all rfl
theorem k_mean_rates : chkEnt T d_mean_rates = true := by decide +kernel
theorem b_mean_rates : DBinds d_mean_rates.nm d_mean_rates.st d_mean_rates.ps := fun _ _ _ _ _ _ us hl => match us, hl with | [_, _], _ => by with_unfolding_all rfl
theorem k_greatest_above : chkEnt T d_greatest_above = true := by decide +kernel
theorem b_greatest_above : DBinds d_greatest_above.nm d_greatest_above.st d_greatest_above.ps := fun _ _ _ _ _ _ us hl => match us, hl with | [_, _], _ => by with_unfolding_all rfl
theorem k_least_burst : chkEnt T d_least_burst = true := by decide +kernel
theorem b_least_burst : DBinds d_least_burst.nm d_least_burst.st d_least_burst.ps := fun _ _ _ _ _ _ us hl => match us, hl with | [_, _], _ => by with_unfolding_all rfl
theorem k_check_rates : chkEnt T d_check_rates = true := by decide +kernel
theorem b_check_rates : DBinds d_check_rates.nm d_check_rates.st d_check_rates.ps := fun _ _ _ _ _ _ us hl => match us, hl with | [_, _], _ => by with_unfolding_all rfl
theorem k_least_bound : chkEnt T d_least_bound = true := by decide +kernel
theorem b_least_bound : DBinds d_least_bound.nm d_least_bound.st d_least_bound.ps := fun _ _ _ _ _ _ us hl => match us, hl with | [_, _, _], _ => by with_unfolding_all rfl
theorem k_is_passed : chkEnt T d_is_passed = true := by decide +kernel
theorem b_is_passed : DBinds d_is_passed.nm d_is_passed.st d_is_passed.ps := fun _ _ _ _ _ _ us hl => match us, hl with | [_, _, _, _, _], _ => by with_unfolding_all rfl
theorem k_first_of_stream : chkEnt T d_first_of_stream = true := by decide +kernel
theorem b_first_of_stream : DBinds d_first_of_stream.nm d_first_of_stream.st d_first_of_stream.ps := fun _ _ _ _ _ _ us hl => match us, hl with | [_, _, _], _ => by with_unfolding_all rfl
theorem k_first_passed : chkEnt T d_first_passed = true := by decide +kernel
theorem b_first_passed : DBinds d_first_passed.nm d_first_passed.st d_first_passed.ps := fun _ _ _ _ _ _ us hl => match us, hl with | [_, _, _], _ => by with_unfolding_all rfl
theorem k_follows_frame : chkEnt T d_follows_frame = true := by decide +kernel
theorem b_follows_frame : DBinds d_follows_frame.nm d_follows_frame.st d_follows_frame.ps := fun _ _ _ _ _ _ us hl => match us, hl with | [_, _], _ => by with_unfolding_all rfl
theorem k_weight_of : chkEnt T d_weight_of = true := by decide +kernel
theorem b_weight_of : DBinds d_weight_of.nm d_weight_of.st d_weight_of.ps := fun _ _ _ _ _ _ us hl => match us, hl with | [_, _], _ => by with_unfolding_all rfl
theorem k_off_weight_at : chkEnt T d_off_weight_at = true := by decide +kernel
theorem b_off_weight_at : DBinds d_off_weight_at.nm d_off_weight_at.st d_off_weight_at.ps := fun _ _ _ _ _ _ us hl => match us, hl with | [_, _, _], _ => by with_unfolding_all rfl
theorem k__law_bag : chkEnt T d__law_bag = true := by decide +kernel
theorem b__law_bag : DBinds d__law_bag.nm d__law_bag.st d__law_bag.ps := fun _ _ _ _ _ _ us hl => match us, hl with | [_], _ => by with_unfolding_all rfl
theorem k__law_take : chkEnt T d__law_take = true := by decide +kernel
theorem b__law_take : DBinds d__law_take.nm d__law_take.st d__law_take.ps := fun _ _ _ _ _ _ us hl => match us, hl with | [_, _], _ => by with_unfolding_all rfl
theorem k__law_some : chkEnt T d__law_some = true := by decide +kernel
theorem b__law_some : DBinds d__law_some.nm d__law_some.st d__law_some.ps := fun _ _ _ _ _ _ us hl => match us, hl with | [_, _], _ => by with_unfolding_all rfl
theorem k__law_alike : chkEnt T d__law_alike = true := by decide +kernel
theorem b__law_alike : DBinds d__law_alike.nm d__law_alike.st d__law_alike.ps := fun _ _ _ _ _ _ us hl => match us, hl with | [_, _], _ => by with_unfolding_all rfl
theorem k__law_made : chkEnt T d__law_made = true := by decide +kernel
theorem b__law_made : DBinds d__law_made.nm d__law_made.st d__law_made.ps := fun _ _ _ _ _ _ us hl => match us, hl with | [_, _], _ => by with_unfolding_all rfl
theorem k__law_add : chkEnt T d__law_add = true := by decide +kernel
theorem b__law_add : DBinds d__law_add.nm d__law_add.st d__law_add.ps := fun _ _ _ _ _ _ us hl => match us, hl with | [_, _], _ => by with_unfolding_all rfl
theorem k__law_mul : chkEnt T d__law_mul = true := by decide +kernel
theorem b__law_mul : DBinds d__law_mul.nm d__law_mul.st d__law_mul.ps := fun _ _ _ _ _ _ us hl => match us, hl with | [_, _], _ => by with_unfolding_all rfl
theorem k__law_neg : chkEnt T d__law_neg = true := by decide +kernel
theorem b__law_neg : DBinds d__law_neg.nm d__law_neg.st d__law_neg.ps := fun _ _ _ _ _ _ us hl => match us, hl with | [_], _ => by with_unfolding_all rfl
theorem k__law_below : chkEnt T d__law_below = true := by decide +kernel
theorem b__law_below : DBinds d__law_below.nm d__law_below.st d__law_below.ps := fun _ _ _ _ _ _ us hl => match us, hl with | [_, _], _ => by with_unfolding_all rfl
theorem k__law_streams : chkEnt T d__law_streams = true := by decide +kernel
theorem b__law_streams : DBinds d__law_streams.nm d__law_streams.st d__law_streams.ps := fun _ _ _ _ _ _ us hl => match us, hl with | [_, _], _ => by with_unfolding_all rfl
theorem k__law_services : chkEnt T d__law_services = true := by decide +kernel
theorem b__law_services : DBinds d__law_services.nm d__law_services.st d__law_services.ps := fun _ _ _ _ _ _ us hl => match us, hl with | [_, _], _ => by with_unfolding_all rfl
theorem k__law_rate : chkEnt T d__law_rate = true := by decide +kernel
theorem b__law_rate : DBinds d__law_rate.nm d__law_rate.st d__law_rate.ps := fun _ _ _ _ _ _ us hl => match us, hl with | [_], _ => by with_unfolding_all rfl
theorem k__law_bound : chkEnt T d__law_bound = true := by decide +kernel
theorem b__law_bound : DBinds d__law_bound.nm d__law_bound.st d__law_bound.ps := fun _ _ _ _ _ _ us hl => match us, hl with | [_, _], _ => by with_unfolding_all rfl
theorem k__law_log : chkEnt T d__law_log = true := by decide +kernel
theorem b__law_log : DBinds d__law_log.nm d__law_log.st d__law_log.ps := fun _ _ _ _ _ _ us hl => match us, hl with | [_, _, _, _], _ => by with_unfolding_all rfl
theorem k__law_come_to : chkEnt T d__law_come_to = true := by decide +kernel
theorem b__law_come_to : DBinds d__law_come_to.nm d__law_come_to.st d__law_come_to.ps := fun _ _ _ _ _ _ us hl => match us, hl with | [_, _, _, _], _ => by with_unfolding_all rfl
theorem k__law_burst : chkEnt T d__law_burst = true := by decide +kernel
theorem b__law_burst : DBinds d__law_burst.nm d__law_burst.st d__law_burst.ps := fun _ _ _ _ _ _ us hl => match us, hl with | [_, _], _ => by with_unfolding_all rfl
theorem k__law_passed : chkEnt T d__law_passed = true := by decide +kernel
theorem b__law_passed : DBinds d__law_passed.nm d__law_passed.st d__law_passed.ps := fun _ _ _ _ _ _ us hl => match us, hl with | [_, _], _ => by with_unfolding_all rfl
theorem k__law_off : chkEnt T d__law_off = true := by decide +kernel
theorem b__law_off : DBinds d__law_off.nm d__law_off.st d__law_off.ps := fun _ _ _ _ _ _ us hl => match us, hl with | [_, _, _], _ => by with_unfolding_all rfl
theorem k_law : chkEnt T d_law = true := by decide +kernel
theorem b_law : DBinds d_law.nm d_law.st d_law.ps := fun _ _ _ _ _ _ us hl => match us, hl with | [_], _ => by with_unfolding_all rfl
theorem checks : AllP (fun d : DEnt => chkEnt T d = true) ents := ⟨k_is_number, k_is_index, k_is_sized, k_is_tuple_of, k_common_divisor, k_is_fraction, k_great, k_is_told_fraction, k_is_indexes, k_is_weights, k_is_rate_form, k_is_bound_form, k_made, k_whole, k_added, k_negative, k_less, k_times, k_is_less, k_greatest, k_all_turns, k_mean_rates, k_greatest_above, k_least_burst, k_check_rates, k_least_bound, k_is_passed, k_first_of_stream, k_first_passed, k_follows_frame, k_weight_of, k_off_weight_at, k__law_bag, k__law_take, k__law_some, k__law_alike, k__law_made, k__law_add, k__law_mul, k__law_neg, k__law_below, k__law_streams, k__law_services, k__law_rate, k__law_bound, k__law_log, k__law_come_to, k__law_burst, k__law_passed, k__law_off, k_law, trivial⟩
theorem binds : AllP (fun d : DEnt => DBinds d.nm d.st d.ps) ents := ⟨b_is_number, b_is_index, b_is_sized, b_is_tuple_of, b_common_divisor, b_is_fraction, b_great, b_is_told_fraction, b_is_indexes, b_is_weights, b_is_rate_form, b_is_bound_form, b_made, b_whole, b_added, b_negative, b_less, b_times, b_is_less, b_greatest, b_all_turns, b_mean_rates, b_greatest_above, b_least_burst, b_check_rates, b_least_bound, b_is_passed, b_first_of_stream, b_first_passed, b_follows_frame, b_weight_of, b_off_weight_at, b__law_bag, b__law_take, b__law_some, b__law_alike, b__law_made, b__law_add, b__law_mul, b__law_neg, b__law_below, b__law_streams, b__law_services, b__law_rate, b__law_bound, b__law_log, b__law_come_to, b__law_burst, b__law_passed, b__law_off, b_law, trivial⟩
end My
set_option maxHeartbeats 4000000
namespace DI
open PySem
@[simp] theorem eqP_int {M : Store} {i j : Int} : eqP M (.int i) (.int j) = some (.bl (decide (i = j))) := by
  simp [eqP, datM, dat, SeqAt.shaped, PyData.eqv, PyData.canLay0, PyData.depth, Bool.beq_eq_decide_eq]
@[simp] theorem neP_int {M : Store} {i j : Int} : neP M (.int i) (.int j) = some (.bl (!decide (i = j))) := by
  simp [neP, datM, dat, SeqAt.shaped, PyData.eqv, PyData.canLay0, PyData.depth, Bool.beq_eq_decide_eq]
theorem while_gcdG {c : Ev Bool} {body : Ex} {M : Store} (mk : Nat → Nat → Sl) (hc : ∀ x y : Nat, c (mk x y) M = .ok (decide (y ≠ 0)) M) (hb : ∀ x y : Nat, y ≠ 0 → body (mk x y) M = .nx (mk y (x % y)) M) :
    ∀ (n x y : Nat), y ≤ n → whileR c body (mk x y) M = .nx (mk (Nat.gcd x y) 0) M
  | n, x, 0, _ => by
    rw [whileR_unfold]
    unfold whileK
    rw [hc, ofR_ok]
    simp
  | 0, x, y + 1, h => by omega
  | n + 1, x, y + 1, h => by
    have hm : x % (y + 1) ≤ n := by
      have h1 : x % (y + 1) < y + 1 := Nat.mod_lt x (Nat.succ_pos y)
      omega
    rw [whileR_unfold]
    unfold whileK
    rw [hc, ofR_ok, hb x (y + 1) (by omega)]
    simp only [ne_eq, Nat.add_eq_zero_iff, Nat.succ_ne_self, and_false, not_false_eq_true, decide_true, if_true]
    rw [while_gcdG mk hc hb n (y + 1) (x % (y + 1)) hm, Nat.gcd_comm x (y + 1), Nat.gcd_rec (y + 1) x, Nat.gcd_comm]
end DI
namespace My
open PySem DI
noncomputable def F (k : Nat) : Fns := Fn T (codesOf ents) k
theorem F_run {k f : Nat} {ar n : Nat} {nm : List Str} {body : CSs} {ps : List PV} {M : Store} (h : codesOf ents f = some ⟨ar, nm, body⟩) (h1 : ps.length = ar) (h2 : nm.length = ar + n) :
    F (k + 1) f ps M = runK M.length (exs T (F k) body (ps.map some ++ List.replicate n none) M) := Fn_run h h1 h2
theorem f_is_number_int (k : Nat) (i : Int) (M : Store) : F (k + 1) 0 [.int i] M = .ok (.bl true) M := by
  rw [F_run (n := 0) rfl rfl rfl]
  simp [biP, isinstF, tyNm]
theorem absI (i : Int) : (if i < 0 then -i else i) = (i.natAbs : Int) := by omega
theorem fmodN (x y : Nat) : (x : Int).fmod (y : Int) = ((x % y : Nat) : Int) := by
  rw [Int.fmod_eq_emod_of_nonneg _ (by omega)]
  rfl
theorem f_gcd (k : Nat) (a b : Int) (M : Store) : F (k + 1) 4 [.int a, .int b] M = .ok (.int (Int.gcd a b)) M := by
  rw [F_run (n := 0) rfl rfl rfl]
  simp [biP, absF, parK, asgs, asg]
  rw [absI, absI, while_gcdG (fun x y => [some (.int x), some (.int y)]) ?_ ?_ b.natAbs _ _ (Nat.le_refl _)]
  · simp
    rfl
  · intro x y
    simp [cmpP]
  · intro x y hy
    have hy' : ¬ ((y : Int) = 0) := by omega
    simp [binP, modP, parK, asgs, asg, hy, fmodN]
/-! ### fractions -/
def fr (q : Rat) : PV := .tup [.int q.num, .int q.den]
theorem fdiv_pos (a : Int) {g : Int} (h : 0 ≤ g) : a.fdiv g = a / g := Int.fdiv_eq_ediv_of_nonneg _ h
theorem divOk_gcd {a b : Int} (hb : 0 < b) (h : b.natAbs.log2 < 9000) : divOk (Int.gcd a b : Int) = true := by
  have h1 : 0 < Int.gcd a b := Int.gcd_pos_of_ne_zero_right _ (by omega)
  have h2 : Int.gcd a b ≤ b.natAbs := Nat.le_of_dvd (by omega) (Int.gcd_dvd_natAbs_right _ _)
  have h3 : (Int.gcd a b).log2 ≤ b.natAbs.log2 := by
    rw [Nat.le_log2 (by omega)]
    exact Nat.le_trans (Nat.log2_self_le (by omega)) h2
  simp only [divOk, Bool.and_eq_true, decide_eq_true_eq, Int.natAbs_natCast]
  exact ⟨by omega, by omega⟩
theorem fr_div {a b : Int} (hb : 0 < b) : PV.tup [.int (a.fdiv (Int.gcd a b)), .int (b.fdiv (Int.gcd a b))] = fr (Rat.divInt a b) := by
  unfold fr
  rw [Rat.num_divInt, Rat.den_divInt, if_neg (by omega), Int.sign_eq_one_of_pos hb, Int.one_mul, fdiv_pos _ (by omega), fdiv_pos _ (by omega), Int.gcd_comm b a]
  congr 3
  have : (b.natAbs : Int) = b := by omega
  rw [Int.natCast_ediv, this]
theorem f_made (k : Nat) (a b : Int) (hb : 0 < b) (h : b.natAbs.log2 < 9000) (M : Store) : F (k + 2) 12 [.int a, .int b] M = .ok (fr (Rat.divInt a b)) M := by
  rw [← fr_div hb, F_run (n := 1) rfl rfl rfl]
  have h0 : ¬ b = 0 := by omega
  have hd := divOk_gcd (a := a) hb h
  have e1 := f_is_number_int k a
  have e2 := f_is_number_int k b
  have e3 := f_gcd k a b
  simp [e1, e2, cmpP, gtP, h0, hb, e3, asgK, asg, binP, divP, hd, sz2]
end My
set_option maxHeartbeats 4000000
namespace My
open PySem DI
theorem add_div (p q : Rat) : p + q = Rat.divInt (p.num * q.den + q.num * p.den) ((p.den * q.den : Nat) : Int) := by
  rw [Rat.add_def, Rat.divInt_ofNat, Rat.mkRat_def, dif_neg]
theorem mul_div (p q : Rat) : p * q = Rat.divInt (p.num * q.num) ((p.den * q.den : Nat) : Int) := by
  rw [Rat.mul_def, Rat.divInt_ofNat, Rat.mkRat_def, dif_neg]
theorem smI_nat {n : Nat} (h : n < 2 ^ 64) : smI (n : Int) = true := by
  simp only [smI, Bool.and_eq_true, decide_eq_true_eq]
  omega
theorem mulOk_r {i j : Int} (h : smI j = true) : mulOk i j = true := by simp [mulOk, h]
theorem mulOk_l {i j : Int} (h : smI i = true) : mulOk i j = true := by simp [mulOk, h]
theorem log2_lt {n : Nat} (h : n < 2 ^ 128) : n.log2 < 9000 := by
  by_cases h0 : n = 0
  · subst h0; decide
  · have := Nat.log2_lt h0 |>.mpr h
    omega
theorem log2_den {p q : Rat} (hp : p.den < 2 ^ 64) (hq : q.den < 2 ^ 64) : (((p.den * q.den : Nat) : Int)).natAbs.log2 < 9000 := by
  refine log2_lt ?_
  rw [Int.natAbs_natCast]
  calc p.den * q.den < 2 ^ 64 * 2 ^ 64 := Nat.mul_lt_mul'' hp hq
    _ = 2 ^ 128 := by decide
theorem den_pos2 (p q : Rat) : (0 : Int) < ((p.den * q.den : Nat) : Int) := by
  have := Nat.mul_pos p.den_pos q.den_pos
  omega
theorem f_whole (k : Nat) (n : Int) (M : Store) : F (k + 1) 13 [.int n] M = .ok (fr (n : Rat)) M := by
  rw [F_run (n := 0) rfl rfl rfl]
  simp [sz2, fr]
theorem idx0 {M : Store} {a b : PV} : idxP M (.tup [a, b]) (.int 0) = some a := by simp [idxP, L2.atI, L2.ixN]
theorem idx1 {M : Store} {a b : PV} : idxP M (.tup [a, b]) (.int 1) = some b := by simp [idxP, L2.atI, L2.ixN]
theorem mul_ok {M : Store} {i j : Int} (h : mulOk i j = true) : mulP M (.int i) (.int j) = some (.int (i * j)) := by simp [mulP, h]
theorem add_ok {M : Store} {i j : Int} : addP M (.int i) (.int j) = some (.int (i + j)) := by simp [addP]
theorem r_added (k : Nat) (a b c d : Int) (r : PV) (h1 : mulOk a d = true) (h2 : mulOk c b = true) (h3 : mulOk b d = true) (M : Store) (hm : F (k + 1) 12 [.int (a * d + c * b), .int (b * d)] M = .ok r M) :
    F (k + 2) 14 [.tup [.int a, .int b], .tup [.int c, .int d]] M = .ok r M := by
  rw [F_run (n := 0) rfl rfl rfl]
  simp [idx0, idx1, binP, mul_ok h1, mul_ok h2, mul_ok h3, add_ok, hm]
theorem f_added (k : Nat) (p q : Rat) (hp : p.den < 2 ^ 64) (hq : q.den < 2 ^ 64) (M : Store) : F (k + 3) 14 [fr p, fr q] M = .ok (fr (p + q)) M := by
  have hm := f_made k (p.num * q.den + q.num * p.den) ((p.den * q.den : Nat) : Int) (den_pos2 p q) (log2_den hp hq) M
  rw [← add_div, Int.natCast_mul] at hm
  exact r_added (k + 1) p.num p.den q.num q.den _ (mulOk_r (smI_nat hq)) (mulOk_r (smI_nat hp)) (mulOk_r (smI_nat hq)) M hm
theorem r_negative (k : Nat) (a b : Int) (M : Store) : F (k + 1) 15 [.tup [.int a, .int b]] M = .ok (.tup [.int (0 - a), .int b]) M := by
  rw [F_run (n := 0) rfl rfl rfl]
  simp [idx0, idx1, binP, subP, sz2]
theorem f_negative (k : Nat) (p : Rat) (M : Store) : F (k + 1) 15 [fr p] M = .ok (fr (-p)) M := by
  have h := r_negative k p.num p.den M
  rw [Int.zero_sub] at h
  exact h
theorem f_less (k : Nat) (p q : Rat) (hp : p.den < 2 ^ 64) (hq : q.den < 2 ^ 64) (M : Store) : F (k + 4) 16 [fr p, fr q] M = .ok (fr (p - q)) M := by
  have h1 := f_negative (k + 2) q M
  have h2 := f_added k p (-q) hp (by rw [Rat.neg_den]; exact hq) M
  rw [← Rat.sub_eq_add_neg] at h2
  generalize fr p = x at *
  generalize fr q = y at *
  generalize fr (-q) = z at *
  generalize fr (p - q) = r at *
  rw [F_run (n := 0) rfl rfl rfl]
  simp [h1, h2]
theorem r_times (k : Nat) (a b c d : Int) (r : PV) (h1 : mulOk a c = true) (h3 : mulOk b d = true) (M : Store) (hm : F (k + 1) 12 [.int (a * c), .int (b * d)] M = .ok r M) :
    F (k + 2) 17 [.tup [.int a, .int b], .tup [.int c, .int d]] M = .ok r M := by
  rw [F_run (n := 0) rfl rfl rfl]
  simp [idx0, idx1, binP, mul_ok h1, mul_ok h3, hm]
theorem f_times (k : Nat) (p q : Rat) (hp : p.den < 2 ^ 64) (hq : q.den < 2 ^ 64) (hn : smI p.num = true) (M : Store) : F (k + 3) 17 [fr p, fr q] M = .ok (fr (p * q)) M := by
  have hm := f_made k (p.num * q.num) ((p.den * q.den : Nat) : Int) (den_pos2 p q) (log2_den hp hq) M
  rw [← mul_div, Int.natCast_mul] at hm
  exact r_times (k + 1) p.num p.den q.num q.den _ (mulOk_l hn) (mulOk_r (smI_nat hq)) M hm
theorem r_is_less (k : Nat) (a b c d : Int) (h1 : mulOk a d = true) (h3 : mulOk c b = true) (M : Store) :
    F (k + 1) 18 [.tup [.int a, .int b], .tup [.int c, .int d]] M = .ok (.bl (decide (a * d < c * b))) M := by
  rw [F_run (n := 0) rfl rfl rfl]
  simp [idx0, idx1, binP, mul_ok h1, mul_ok h3, cmpP, ltP]
theorem f_is_less (k : Nat) (p q : Rat) (hp : p.den < 2 ^ 64) (hq : q.den < 2 ^ 64) (M : Store) : F (k + 1) 18 [fr p, fr q] M = .ok (.bl (decide (p < q))) M := by
  have h := r_is_less k p.num p.den q.num q.den (mulOk_r (smI_nat hq)) (mulOk_r (smI_nat hp)) M
  rw [show decide (p < q) = decide (p.num * q.den < q.num * p.den) from decide_eq_decide.mpr (Rat.lt_iff p q)]
  exact h
/-! ### the law's own -/
theorem f_law_made (k : Nat) (a b : Int) (hb : 0 < b) (h : b.natAbs.log2 < 9000) (M : Store) : F (k + 1) 36 [.int a, .int b] M = .ok (fr (Rat.divInt a b)) M := by
  rw [← fr_div hb]
  have hd := divOk_gcd (a := a) hb h
  have e0 : (Nat.gcd a.natAbs b.natAbs : Int) = (Int.gcd a b : Int) := rfl
  rw [F_run (n := 2) rfl rfl rfl]
  simp [biP, absF, parK, asgs, asg]
  rw [absI, absI, while_gcdG (fun x y => [some (.int a), some (.int b), some (.int x), some (.int y)]) ?_ ?_ b.natAbs _ _ (Nat.le_refl _)]
  · simp [e0, cmpP, gtP, hb, binP, divP, hd, sz2]
  · intro x y
    simp [cmpP]
  · intro x y hy
    have hy' : ¬ ((y : Int) = 0) := by omega
    simp [binP, modP, parK, asgs, asg, hy, fmodN]
theorem r_law_add (k : Nat) (a b c d : Int) (r : PV) (h1 : mulOk a d = true) (h2 : mulOk c b = true) (h3 : mulOk b d = true) (M : Store) (hm : F (k + 1) 36 [.int (a * d + c * b), .int (b * d)] M = .ok r M) :
    F (k + 2) 37 [.tup [.int a, .int b], .tup [.int c, .int d]] M = .ok r M := by
  rw [F_run (n := 0) rfl rfl rfl]
  simp [idx0, idx1, binP, mul_ok h1, mul_ok h2, mul_ok h3, add_ok, hm]
end My
set_option maxHeartbeats 4000000
namespace My
open PySem DI
theorem f_law_add (k : Nat) (p q : Rat) (hp : p.den < 2 ^ 64) (hq : q.den < 2 ^ 64) (M : Store) : F (k + 2) 37 [fr p, fr q] M = .ok (fr (p + q)) M := by
  have hm := f_law_made k (p.num * q.den + q.num * p.den) ((p.den * q.den : Nat) : Int) (den_pos2 p q) (log2_den hp hq) M
  rw [← add_div, Int.natCast_mul] at hm
  exact r_law_add k p.num p.den q.num q.den _ (mulOk_r (smI_nat hq)) (mulOk_r (smI_nat hp)) (mulOk_r (smI_nat hq)) M hm
theorem r_law_mul (k : Nat) (a b c d : Int) (r : PV) (h1 : mulOk a c = true) (h3 : mulOk b d = true) (M : Store) (hm : F (k + 1) 36 [.int (a * c), .int (b * d)] M = .ok r M) :
    F (k + 2) 38 [.tup [.int a, .int b], .tup [.int c, .int d]] M = .ok r M := by
  rw [F_run (n := 0) rfl rfl rfl]
  simp [idx0, idx1, binP, mul_ok h1, mul_ok h3, hm]
theorem f_law_mul (k : Nat) (p q : Rat) (hp : p.den < 2 ^ 64) (hq : q.den < 2 ^ 64) (hn : smI q.num = true) (M : Store) : F (k + 2) 38 [fr p, fr q] M = .ok (fr (p * q)) M := by
  have hm := f_law_made k (p.num * q.num) ((p.den * q.den : Nat) : Int) (den_pos2 p q) (log2_den hp hq) M
  rw [← mul_div, Int.natCast_mul] at hm
  exact r_law_mul k p.num p.den q.num q.den _ (mulOk_r hn) (mulOk_r (smI_nat hq)) M hm
theorem r_law_neg (k : Nat) (a b : Int) (M : Store) : F (k + 1) 39 [.tup [.int a, .int b]] M = .ok (.tup [.int (0 - a), .int b]) M := by
  rw [F_run (n := 0) rfl rfl rfl]
  simp [idx0, idx1, binP, subP, sz2]
theorem f_law_neg (k : Nat) (p : Rat) (M : Store) : F (k + 1) 39 [fr p] M = .ok (fr (-p)) M := by
  have h := r_law_neg k p.num p.den M
  rw [Int.zero_sub] at h
  exact h
theorem r_law_below (k : Nat) (a b c d : Int) (h1 : mulOk a d = true) (h3 : mulOk c b = true) (M : Store) :
    F (k + 1) 40 [.tup [.int a, .int b], .tup [.int c, .int d]] M = .ok (.bl (decide (a * d < c * b))) M := by
  rw [F_run (n := 0) rfl rfl rfl]
  simp [idx0, idx1, binP, mul_ok h1, mul_ok h3, cmpP, ltP]
theorem f_law_below (k : Nat) (p q : Rat) (hp : p.den < 2 ^ 64) (hq : q.den < 2 ^ 64) (M : Store) : F (k + 1) 40 [fr p, fr q] M = .ok (.bl (decide (p < q))) M := by
  have h := r_law_below k p.num p.den q.num q.den (mulOk_r (smI_nat hq)) (mulOk_r (smI_nat hp)) M
  rw [show decide (p < q) = decide (p.num * q.den < q.num * p.den) from decide_eq_decide.mpr (Rat.lt_iff p q)]
  exact h
@[simp] theorem asgK_name {i : Nat} {sp : Sl} {p : PV} {M : Store} : asgK (.name i) sp p M = if i < sp.length then .nx (sp.set i (some p)) M else .bad := by
  simp only [asgK, asg]
  by_cases h : i < sp.length
  · rw [if_pos h, if_pos h]
  · rw [if_neg h, if_neg h]
/-! ### the greatest of some -/
def rmax (p q : Rat) : Rat := if p < q then q else p
theorem rmax_den {p q : Rat} {n : Nat} (hp : p.den < n) (hq : q.den < n) : (rmax p q).den < n := by
  unfold rmax
  split
  · exact hq
  · exact hp
theorem for_max {body : Ex} {L : Option PV} {M : Store} (hb : ∀ p q : Rat, p.den < 2 ^ 64 → q.den < 2 ^ 64 → body [L, some (fr p), some (fr q)] M = .nx [L, some (fr (rmax p q)), some (fr q)] M) :
    ∀ (qs : List Rat) (p : Rat) (o : Option PV), p.den < 2 ^ 64 → (∀ q ∈ qs, q.den < 2 ^ 64) → ∃ o', forR [] (asg (.name 2)) body (qs.map fr) [L, some (fr p), o] M = .nx [L, some (fr (qs.foldl rmax p)), o'] M
  | [], p, o, _, _ => ⟨o, by rw [List.map_nil]; unfold forR; rw [gdIfS_nil]; rfl⟩
  | q :: qs, p, o, hp, hq => by
    obtain ⟨o', e⟩ := for_max hb qs (rmax p q) (some (fr q)) (rmax_den hp (hq q List.mem_cons_self)) fun x hx => hq x (List.mem_cons_of_mem _ hx)
    refine ⟨o', ?_⟩
    rw [List.map_cons]
    unfold forR
    rw [gdIfS_nil]
    simp only [asg, List.length_cons, List.length_nil, Nat.reduceAdd, Nat.reduceLT, if_true, List.set_cons_succ, List.set_cons_zero]
    rw [hb p q hp (hq q List.mem_cons_self)]
    exact e
theorem f_greatest (k : Nat) (p : Rat) (qs : List Rat) (hp : p.den < 2 ^ 64) (hq : ∀ q ∈ qs, q.den < 2 ^ 64) (M : Store) : F (k + 2) 19 [.lst ((p :: qs).map fr)] M = .ok (fr (qs.foldl rmax p)) M := by
  have hl := fun p q hp hq => f_is_less k p q hp hq M
  have hidx : ∀ xs : List PV, idxP M (.lst (fr p :: xs)) (.int 0) = some (fr p) := fun xs => by
    simp [idxP, L2.atI, L2.ixN]
  have hp2 : rmax p p = p := by unfold rmax; split <;> rfl
  rw [F_run (n := 2) rfl rfl rfl]
  have hne : ¬ ((qs.length : Int) + 1 = 0) := by omega
  obtain ⟨o', e⟩ := for_max (L := some (.lst ((p :: qs).map fr))) (M := M) (body := exs T (F (k + 1)) (.cons (.asg (.name 1) (.ife (.call 18 (.cons (.var 1) (.cons (.var 2) .nil))) (.var 2) (.var 1))) .nil)) (fun x y hx hy => by
    have h := hl x y hx hy
    unfold rmax
    generalize hfx : fr x = fx at *
    generalize hfy : fr y = fy at *
    simp [h]
    by_cases hxy : x < y
    · simp [hxy, hfy]
    · simp [hxy, hfx]) (p :: qs) p none hp (fun q hm => (List.mem_cons.mp hm).elim (fun z => z ▸ hp) (hq q))
  rw [List.foldl_cons, hp2] at e
  simp only [List.map_cons] at e ⊢
  simp [biP, lenF, lenP, cmpP, hne, hidx, seqIt, e]
end My
set_option maxHeartbeats 4000000
namespace My
open PySem DI
/-! ### one denominator for all -/
def Over (d : Nat) (p : Rat) : Prop := ∃ n : Int, p * (d : Rat) = (n : Rat)
theorem Over.add {d : Nat} {p q : Rat} (h1 : Over d p) (h2 : Over d q) : Over d (p + q) := by
  obtain ⟨n, h1⟩ := h1
  obtain ⟨m, h2⟩ := h2
  exact ⟨n + m, by rw [Rat.add_mul, h1, h2, Rat.intCast_add]⟩
theorem Over.neg {d : Nat} {p : Rat} (h1 : Over d p) : Over d (-p) := by
  obtain ⟨n, h1⟩ := h1
  exact ⟨-n, by rw [Rat.neg_mul, h1, Rat.intCast_neg]⟩
theorem Over.sub {d : Nat} {p q : Rat} (h1 : Over d p) (h2 : Over d q) : Over d (p - q) := by
  rw [Rat.sub_eq_add_neg]
  exact h1.add h2.neg
theorem Over.int {d : Nat} (n : Int) : Over d (n : Rat) := ⟨n * d, by rw [Rat.intCast_mul]; rfl⟩
theorem Over.max {d : Nat} {p q : Rat} (h1 : Over d p) (h2 : Over d q) : Over d (rmax p q) := by
  unfold rmax
  split
  · exact h2
  · exact h1
theorem Over.self (p : Rat) : Over p.den p := by
  refine ⟨p.num, ?_⟩
  have h0 : ((p.den : Int) : Rat) ≠ 0 := by
    have := p.den_nz
    simp
    exact this
  have h1 : Rat.divInt p.num p.den = p := Rat.num_divInt_den p
  rw [Rat.divInt_eq_div] at h1
  show p * ((p.den : Int) : Rat) = _
  conv => lhs; lhs; rw [← h1]
  rw [Rat.div_mul_cancel h0]
theorem Over.den {d : Nat} {p : Rat} (hd : 0 < d) (h : Over d p) : p.den ≤ d := by
  obtain ⟨n, h⟩ := h
  have hp : p = Rat.divInt n d := by
    rw [Rat.divInt_eq_div, ← h]
    have : ((d : Int) : Rat) ≠ 0 := by
      simp
      omega
    show p = p * ((d : Int) : Rat) / ((d : Int) : Rat)
    rw [Rat.mul_div_cancel this]
  rw [hp, Rat.den_divInt, if_neg (by omega)]
  rw [Int.natAbs_natCast]
  exact Nat.div_le_self _ _
theorem cst1 : T.cst[1]? = some (("ZERO" : Str), fr 0) := rfl
theorem cst2 : T.cst[2]? = some (("ONE" : Str), fr 1) := rfl
end My
set_option maxHeartbeats 4000000
namespace My
open PySem DI
@[simp] theorem parK_two {i j : Nat} {sp : Sl} {p q : PV} {M : Store} : parK [i, j] sp [p, q] M = if i < sp.length ∧ j < sp.length then .nx ((sp.set i (some p)).set j (some q)) M else .bad := by
  simp only [parK, List.map_cons, List.map_nil, asgs, asg]
  by_cases h1 : i < sp.length
  · by_cases h2 : j < sp.length
    · simp [h1, h2]
    · simp [h1, h2]
  · simp [h1]
def kstep (rate : Rat) (h : Rat) (c : Int) : Rat := rmax 0 (h + ((c : Rat) - rate))
def kad (rate : Rat) : Rat → Rat → List Int → Rat
  | f, _, [] => f
  | f, h, c :: cs => kad rate (rmax f (kstep rate h c)) (kstep rate h c) cs
theorem for_kad {d : Nat} {rate : Rat} {body : Ex} {L R : Option PV} {M : Store} (hr : Over d rate) (hb : ∀ (c : Int) (f h : Rat), Over d f → Over d h → body [L, R, some (.int c), some (fr f), some (fr h)] M = .nx [L, R, some (.int c), some (fr (rmax f (kstep rate h c))), some (fr (kstep rate h c))] M) :
    ∀ (cs : List Int) (f h : Rat) (o : Option PV), Over d f → Over d h → ∃ o' p, forR [] (asg (.name 2)) body (cs.map .int) [L, R, o, some (fr f), some (fr h)] M = .nx [L, R, o', some (fr (kad rate f h cs)), p] M
  | [], f, h, o, _, _ => ⟨o, _, by rw [List.map_nil]; unfold forR; rw [gdIfS_nil]; rfl⟩
  | c :: cs, f, h, o, hf, hh => by
    have hs : Over d (kstep rate h c) := (Over.int 0).max (hh.add ((Over.int c).sub hr))
    obtain ⟨o', p, e⟩ := for_kad hr hb cs (rmax f (kstep rate h c)) (kstep rate h c) (some (.int c)) (hf.max hs) hs
    refine ⟨o', p, ?_⟩
    rw [List.map_cons]
    unfold forR
    rw [gdIfS_nil]
    simp only [asg, List.length_cons, List.length_nil, Nat.reduceAdd, Nat.reduceLT, if_true, List.set_cons_succ, List.set_cons_zero]
    rw [hb c f h hf hh]
    exact e
theorem f_max2 (k : Nat) (p q : Rat) (hp : p.den < 2 ^ 64) (hq : q.den < 2 ^ 64) (M : Store) : F (k + 2) 19 [.lst [fr p, fr q]] M = .ok (fr (rmax p q)) M :=
  f_greatest k p [q] hp (fun x hx => by rw [List.mem_singleton.mp hx]; exact hq) M
theorem f_above (k : Nat) (rate : Rat) (comes : List Int) (hd : rate.den < 2 ^ 64) (M : Store) : F (k + 6) 22 [.lst (comes.map .int), fr rate] M = .ok (fr (kad rate 0 0 comes)) M := by
  have hdp : 0 < rate.den := rate.den_pos
  have small : ∀ {p : Rat}, Over rate.den p → p.den < 2 ^ 64 := fun h => Nat.lt_of_le_of_lt (h.den hdp) hd
  have o0 : Over rate.den 0 := Over.int 0
  have orate := Over.self rate
  rw [F_run (n := 3) rfl rfl rfl]
  obtain ⟨o', p', e⟩ := for_kad (L := some (.lst (comes.map .int))) (R := some (fr rate)) (M := M) (d := rate.den) (rate := rate) (body := exs T (F (k + 5)) (.cons (.asg (.name 4) (.call 19 (.cons (.lst (.cons (.glob 1) (.cons (.call 14 (.cons (.var 4) (.cons (.call 16 (.cons (.call 13 (.cons (.var 2) .nil)) (.cons (.var 1) .nil))) .nil))) .nil))) .nil))) (.cons (.asg (.name 3) (.call 19 (.cons (.lst (.cons (.var 3) (.cons (.var 4) .nil))) .nil))) .nil))) orate (fun c f h hf hh => by
    have e1 := f_whole (k + 4) c M
    have e2 := f_less (k + 1) (c : Rat) rate (small (Over.int c)) hd M
    have e3 := f_added (k + 2) h ((c : Rat) - rate) (small hh) (small ((Over.int c).sub orate)) M
    have e4 := f_max2 (k + 3) 0 (h + ((c : Rat) - rate)) (small o0) (small (hh.add ((Over.int c).sub orate))) M
    have hs : Over rate.den (kstep rate h c) := o0.max (hh.add ((Over.int c).sub orate))
    have e5 := f_max2 (k + 3) f (kstep rate h c) (small hf) (small hs) M
    unfold kstep at *
    generalize fr (rmax f (rmax 0 (h + ((c : Rat) - rate)))) = y5 at *
    generalize fr (rmax 0 (h + ((c : Rat) - rate))) = y4 at *
    generalize fr (h + ((c : Rat) - rate)) = y3 at *
    generalize fr ((c : Rat) - rate) = y2 at *
    generalize fr (c : Rat) = y1 at *
    generalize fr rate = y0 at *
    generalize fr h = yh at *
    generalize fr f = yf at *
    have c1 := cst1
    generalize fr 0 = z0 at *
    simp [e1, e2, e3, e4, e5, c1, sz2]) comes 0 0 none o0 o0
  have c1 := cst1
  generalize fr (kad rate 0 0 comes) = r at *
  generalize fr 0 = z0 at *
  generalize fr rate = y0 at *
  simp [c1, seqIt, e]
end My
set_option maxHeartbeats 4000000
namespace My
open PySem DI
theorem r_eq {M : Store} {a b c d : Int} : eqP M (.tup [.int a, .int b]) (.tup [.int c, .int d]) = some (.bl (decide (a = c) && decide (b = d))) := by
  simp [eqP, datM, dat, dats, SeqAt.shaped, PyData.eqv, PyData.eqvAll, PyData.canLay0, PyData.canLayAll0, PyData.depth, PyData.depthAll, Bool.beq_eq_decide_eq]
theorem eqP_fr {M : Store} {p q : Rat} : eqP M (fr p) (fr q) = some (.bl (decide (p = q))) := by
  have h := @r_eq M p.num p.den q.num q.den
  have e : (decide (p.num = q.num) && decide ((p.den : Int) = (q.den : Int))) = decide (p = q) := by
    rw [Bool.eq_iff_iff]
    simp only [Bool.and_eq_true, decide_eq_true_eq]
    constructor
    · rintro ⟨h1, h2⟩
      exact Rat.ext h1 (by omega)
    · rintro rfl
      exact ⟨rfl, rfl⟩
  rw [e] at h
  exact h
theorem blsOf_map {α : Type} (f : α → Bool) : ∀ l : List α, blsOf (l.map fun x => PV.bl (f x)) = some (l.map f)
  | [] => rfl
  | x :: l => by
    simp only [List.map_cons, blsOf, blsOf_map f l]
theorem f_least_burst (k : Nat) (rate : Rat) (comes : List Int) (hd : rate.den < 2 ^ 64) (M : Store) :
    F (k + 7) 23 [.lst (comes.map .int), fr rate] M = .ok (fr (if rate = 0 ∧ ¬ (∃ c ∈ comes, 0 < c) then 0 else rmax 1 (kad rate 0 0 comes))) M := by
  have ha := f_above k rate comes hd M
  have hdp : 0 < rate.den := rate.den_pos
  have ok : ∀ (cs : List Int) (f h : Rat), Over rate.den f → Over rate.den h → Over rate.den (kad rate f h cs) := fun cs => by
    induction cs with
    | nil => exact fun f h hf hh => hf
    | cons c cs ih => exact fun f h hf hh => ih _ _ (hf.max ((Over.int 0).max (hh.add ((Over.int c).sub (Over.self rate))))) ((Over.int 0).max (hh.add ((Over.int c).sub (Over.self rate))))
  have hk := ok comes 0 0 (Over.int 0) (Over.int 0)
  have hm := f_max2 (k + 4) 1 (kad rate 0 0 comes) (by decide) (Nat.lt_of_le_of_lt (hk.den hdp) hd) M
  have c1 := cst1
  have c2 := cst2
  have hq := @eqP_fr M rate 0
  have hcomp : compR [] (stepC (.name 2) [2] (evC T (F (k + 6)) none) (ev T (F (k + 6)) (.cmp .Gt (.var 2) (.int 0))) [some (.lst (comes.map .int)), some (fr rate), none]) (comes.map .int) M = .ok (comes.map fun c => .bl (decide (0 < c))) M :=
    compR_mapA _ _ fun c hc => by
      simp [stepC, asg, wipeP, cmpP, gtP]
  have hany : (comes.map fun c => decide ((0 : Int) < c)).any id = decide (∃ c ∈ comes, 0 < c) := by
    rw [Bool.eq_iff_iff]
    simp
  rw [F_run (n := 1) rfl rfl rfl]
  generalize fr rate = y0 at *
  generalize hz0 : fr 0 = z0 at *
  generalize hz1 : fr 1 = z1 at *
  generalize fr (kad rate 0 0 comes) = y1 at *
  by_cases h1 : rate = 0
  · by_cases h2 : ∃ c ∈ comes, 0 < c
    · simp [h1, h2, c1, c2, cmpP, hq, seqIt, hcomp, biP, anyF, itemsL, blsOf_map, hany, ha, hm, sz2]
    · simp [h1, h2, c1, c2, cmpP, hq, seqIt, hcomp, biP, anyF, itemsL, blsOf_map, hany, ha, hm, sz2, hz0]
  · simp [h1, c1, c2, cmpP, hq, ha, hm, sz2]
end My
set_option maxHeartbeats 4000000
namespace My
open PySem DI
/-! ### the bag -/
def bagV (b0 b1 b2 : Int) (cs : List Int) : List PV := [.int b0, .int b1, .int b2, .lst (cs.map .int)]
@[simp] theorem lst0 {xs : List PV} {R : Store} : lstAt (some (.lst xs) :: R) 0 = some xs := rfl
theorem iR0 {R : Store} {a b c d : PV} : idxP (some (.lst [a, b, c, d]) :: R) (.ref 0) (.int 0) = some a := by simp [idxP, L2.atI, L2.ixN]
theorem iR1 {R : Store} {a b c d : PV} : idxP (some (.lst [a, b, c, d]) :: R) (.ref 0) (.int 1) = some b := by simp [idxP, L2.atI, L2.ixN]
theorem iR2 {R : Store} {a b c d : PV} : idxP (some (.lst [a, b, c, d]) :: R) (.ref 0) (.int 2) = some c := by simp [idxP, L2.atI, L2.ixN]
theorem iR3 {R : Store} {a b c d : PV} : idxP (some (.lst [a, b, c, d]) :: R) (.ref 0) (.int 3) = some d := by simp [idxP, L2.atI, L2.ixN]
theorem sR0 {sp : Sl} {R : Store} {a b c d v : PV} : setK sp v (.ref 0) (.int 0) (some (.lst [a, b, c, d]) :: R) = .nx sp (some (.lst [v, b, c, d]) :: R) := by simp [setK, setP, L2.ixN]
theorem sR1 {sp : Sl} {R : Store} {a b c d v : PV} : setK sp v (.ref 0) (.int 1) (some (.lst [a, b, c, d]) :: R) = .nx sp (some (.lst [a, v, c, d]) :: R) := by simp [setK, setP, L2.ixN]
theorem sR2 {sp : Sl} {R : Store} {a b c d v : PV} : setK sp v (.ref 0) (.int 2) (some (.lst [a, b, c, d]) :: R) = .nx sp (some (.lst [a, b, v, d]) :: R) := by simp [setK, setP, L2.ixN]
end My
set_option maxHeartbeats 4000000
namespace My
open PySem DI
theorem cut_from (xs : List PV) (n : Nat) : cutP xs (some n) none = xs.drop n := by
  unfold cutP
  rw [HT.sIx_nat, HT.sIx_none, List.take_of_length_le (by simp)]
  by_cases h : n ≤ xs.length
  · rw [Nat.min_eq_left h]
  · rw [Nat.min_eq_right (by omega), List.drop_length, List.drop_eq_nil_of_le (by omega)]
theorem sz1 : 1 ≤ sizeLine := by decide
def cellAt (cs : List Int) (n : Nat) : Int := (cs.drop n ++ [0]).headD 0
theorem idx_head (cs : List Int) {M : Store} : idxP M (.lst (cs.map .int ++ [.int 0])) (.int 0) = some (.int ((cs ++ [0]).headD 0)) := by
  cases cs with
  | nil => simp [idxP, L2.atI, L2.ixN]
  | cons c cs =>
    have h : (0 : Int) < (cs.length : Int) + 1 + 1 := by omega
    simp [idxP, L2.atI, L2.ixN, h]
@[simp] theorem gcM_cons {o : Option SObj} {R : Store} {ps : List PV} : gcM (R.length + 1) (o :: R) ps = o :: R := gcM_le (by simp)
/-- the law's bag gives a number below many and stays a bag -/
theorem f_take (k : Nat) (b0 b1 : Int) (n : Nat) (cs : List Int) (many : Int) (R : Store) (h0 : 0 ≤ b0) (h1 : 0 ≤ b1 ∧ b1 < 2147483647) (hm : 1 ≤ many) (hm2 : many < 1000000) (hl : cs.length ≤ 100) :
    ∃ (v c0 c1 : Int) (m : Nat), F (k + 1) 33 [.ref 0, .int many] (some (.lst (bagV b0 b1 n cs)) :: R) = .ok (.int v) (some (.lst (bagV c0 c1 m cs)) :: R) ∧ 0 ≤ v ∧ v < many ∧ 0 ≤ c0 ∧ 0 ≤ c1 ∧ c1 < 2147483647 := by
  have hne : ¬ many = 0 := by omega
  have hdv : divOk many = true := by
    simp only [divOk, Bool.and_eq_true, decide_eq_true_eq]
    refine ⟨hne, log2_lt ?_⟩
    omega
  by_cases hb : b0 = 0
  · subst hb
    have e1 : slcP (some (.lst [.int 0, .int b1, .int n, .lst (cs.map .int)]) :: R) (.lst (cs.map .int)) (some (n : Int)) none = some (.lst ((cs.map .int).drop n)) := by
      simp only [slcP, cut_from]
    have e2 : ∀ M : Store, idxP M (.lst ((cs.map .int).drop n ++ [.int 0])) (.int 0) = some (.int ((cs.drop n ++ [0]).headD 0)) := fun M => by rw [← List.map_drop]; exact idx_head _
    have e3 : cs.length - n + 1 ≤ sizeLine := by
      have : 101 ≤ sizeLine := by decide
      omega
    generalize (cs.drop n ++ [0]).headD 0 = cell at e2
    have m1 : mulOk b1 48271 = true := mulOk_r (by decide)
    have m2 : mulOk 7919 ((n : Int) + 1) = true := mulOk_l (by decide)
    have p1 : powP (some (SObj.lst [.int 0, .int b1, .int ((n : Int) + 1), .lst (cs.map .int)]) :: R) (.int 10) (.int 18) = some (.int 1000000000000000000) := by
      have : powOk 10 18 = true := by decide
      simp [powP, this]
    obtain ⟨c1, hc1⟩ : ∃ c1 : Int, (b1 * 48271 + cell.fmod 2147483647 + 7919 * ((n : Int) + 1)).fmod 2147483647 = c1 := ⟨_, rfl⟩
    have hc : 0 ≤ c1 ∧ c1 < 2147483647 := by
      rw [← hc1, Int.fmod_eq_emod_of_nonneg _ (by omega)]
      omega
    by_cases hcell : 1000000000000000000 ≤ cell
    · have hpos : 0 < cell := by omega
      refine ⟨cell.fmod many, cell.fdiv many, c1, n + 1, ?_, ?_, ?_, ?_, hc⟩
      · rw [F_run (n := 5) rfl rfl rfl]
        simp [bagV, iR0, iR1, iR2, iR3, cmpP, gtP, geP, hpos, biP, intF, binP, modP, divP, hne, hdv, sR0, sR1, sR2, e1, e2, e3, sz1, addP, isRef, augIK, augP, mul_ok m1, mul_ok m2, p1, hcell, hc1]
      · rw [Int.fmod_eq_emod_of_nonneg _ (by omega)]
        exact Int.emod_nonneg _ hne
      · rw [Int.fmod_eq_emod_of_nonneg _ (by omega)]
        exact Int.emod_lt_of_pos _ (by omega)
      · rw [fdiv_pos _ (by omega)]
        exact Int.ediv_nonneg (by omega) (by omega)
    · have m3 : mulOk (c1 + 1) 39373 = true := mulOk_r (by decide)
      obtain ⟨bg, hbg⟩ : ∃ bg : Int, ((c1 + 1) * 39373).fmod 1000000007 = bg := ⟨_, rfl⟩
      have hb2 : 0 ≤ bg ∧ bg < 1000000007 := by
        rw [← hbg, Int.fmod_eq_emod_of_nonneg _ (by omega)]
        omega
      have m4 : mulOk bg bg = true := mulOk_r (by simp only [smI, Bool.and_eq_true, decide_eq_true_eq]; omega)
      obtain ⟨sq, hsq⟩ : ∃ sq : Int, (bg * bg).fmod 998244353 = sq := ⟨_, rfl⟩
      have m5 : mulOk sq 30011 = true := mulOk_r (by decide)
      have d7 : divOk 7 = true := by decide
      refine ⟨(((sq * 30011).fmod 998244353).fdiv 7).fmod many, 0, c1, n + 1, ?_, ?_, ?_, Int.le_refl _, hc⟩
      · rw [F_run (n := 5) rfl rfl rfl]
        simp [bagV, iR0, iR1, iR2, iR3, cmpP, gtP, geP, biP, intF, binP, modP, divP, hne, hdv, sR0, sR1, sR2, e1, e2, e3, sz1, addP, isRef, augIK, augP, mul_ok m1, mul_ok m2, mul_ok m3, mul_ok m4, mul_ok m5, p1, hcell, hc1, hbg, hsq, d7]
      · rw [Int.fmod_eq_emod_of_nonneg _ (by omega)]
        exact Int.emod_nonneg _ hne
      · rw [Int.fmod_eq_emod_of_nonneg _ (by omega)]
        exact Int.emod_lt_of_pos _ (by omega)
  · have hpos : 0 < b0 := by omega
    refine ⟨b0.fmod many, b0.fdiv many, b1, n, ?_, ?_, ?_, ?_, h1⟩
    · rw [F_run (n := 5) rfl rfl rfl]
      simp [bagV, iR0, cmpP, gtP, hb, hpos, biP, intF, binP, modP, divP, hne, hdv, sR0]
    · rw [Int.fmod_eq_emod_of_nonneg _ (by omega)]
      exact Int.emod_nonneg _ hne
    · rw [Int.fmod_eq_emod_of_nonneg _ (by omega)]
      exact Int.emod_lt_of_pos _ (by omega)
    · rw [fdiv_pos _ (by omega)]
      exact Int.ediv_nonneg h0 (by omega)
end My
set_option maxHeartbeats 4000000
namespace My
open PySem DI
/-- a store that begins with a bag -/
def Bag (R M : Store) : Prop := ∃ (b0 b1 : Int) (n : Nat) (cs : List Int), M = some (.lst (bagV b0 b1 n cs)) :: R ∧ 0 ≤ b0 ∧ (0 ≤ b1 ∧ b1 < 2147483647) ∧ cs.length ≤ 100
theorem b_take (k : Nat) {R M : Store} (h : Bag R M) (many : Int) (hm : 1 ≤ many) (hm2 : many < 1000000) : ∃ (v : Int) (M' : Store), F (k + 1) 33 [.ref 0, .int many] M = .ok (.int v) M' ∧ Bag R M' ∧ 0 ≤ v ∧ v < many := by
  obtain ⟨b0, b1, n, cs, rfl, h0, h1, hl⟩ := h
  obtain ⟨v, c0, c1, m, e, q1, q2, q3, q4, q5⟩ := f_take k b0 b1 n cs many R h0 h1 hm hm2 hl
  exact ⟨v, _, e, ⟨c0, c1, m, cs, rfl, q3, ⟨q4, q5⟩, hl⟩, q1, q2⟩
theorem atI_nat {α : Type} (xs : List α) {v : Int} (h0 : 0 ≤ v) (h1 : v < xs.length) : ∃ x, xs[v.toNat]? = some x ∧ L2.atI xs v = some x := by
  have hlt : v.toNat < xs.length := by omega
  refine ⟨xs[v.toNat], List.getElem?_eq_getElem hlt, ?_⟩
  have e : L2.ixN xs.length v = some v.toNat := by
    unfold L2.ixN
    rw [if_pos h0, if_pos h1]
  unfold L2.atI
  rw [e]
  exact List.getElem?_eq_getElem hlt
theorem b_some (k : Nat) {R M : Store} (h : Bag R M) (xs : List PV) (hx : 1 ≤ xs.length) (hx2 : xs.length < 1000000) : ∃ (x : PV) (M' : Store), F (k + 2) 34 [.ref 0, .lst xs] M = .ok x M' ∧ Bag R M' ∧ x ∈ xs := by
  obtain ⟨v, M', e, hb, h0, h1⟩ := b_take k h (xs.length : Int) (by omega) (by omega)
  obtain ⟨x, e1, e2⟩ := atI_nat xs h0 h1
  have e3 : idxP M' (.lst xs) (.int v) = some x := e2
  refine ⟨x, M', ?_, hb, List.mem_of_getElem? e1⟩
  obtain ⟨b0, b1, n, cs, rfl, _⟩ := h
  obtain ⟨c0, c1, m, cs', rfl, _⟩ := hb
  rw [F_run (n := 0) rfl rfl rfl]
  simp [biP, lenF, lenP, e, e3]
end My
set_option maxHeartbeats 4000000
namespace My
open PySem DI
theorem cut_to (xs : List PV) (n : Nat) : cutP xs none (some n) = xs.take n := by
  unfold cutP
  rw [HT.sIx_nat, HT.sIx_none]
  simp
theorem f_bag (k : Nat) (ns : List Int) : ∃ M, F (k + 1) 32 [.scr ns] [] = .ok (.ref 0) M ∧ Bag [] M := by
  refine ⟨[some (.lst (bagV 0 1234567891 (0 : Nat) ((ns.take 63).map fun i => if i < 0 then -i else i)))], ?_, 0, 1234567891, 0, _, rfl, Int.le_refl _, by decide, by simp; omega⟩
  have e1 : slcP [] (.scr ns) none (some 63) = some (.lst ((ns.take 63).map .int)) := by
    have h := cut_to (ns.map .int) 63
    simp only [slcP]
    rw [show (63 : Int) = ((63 : Nat) : Int) from rfl, h, ← List.map_take]
  have e2 := compR_mapA (M := []) (step := stepC (.name 1) [1] (evC T (F k) none) (ev T (F k) (.callB .abs (.cons (.var 1) .nil))) [some (.scr ns), none]) (items := ns.take 63) PV.int (fun i : Int => .int (if i < 0 then -i else i)) fun x hx => by
    simp [stepC, asg, wipeP, biP, absF]
  generalize ns.take 63 = l at *
  rw [F_run (n := 1) rfl rfl rfl]
  have hs : 4 ≤ sizeLine := by decide
  simp [e1, seqIt, e2, hs, bagV]
  rfl
end My
set_option maxHeartbeats 4000000
namespace My
open PySem DI
def abcde : List PV := [.str "a", .str "b", .str "c", .str "d", .str "e"]
theorem cut_toI (xs : List PV) {v : Int} (h : 0 ≤ v) : cutP xs none (some v) = xs.take v.toNat := by
  have e := cut_to xs v.toNat
  rw [Int.toNat_of_nonneg h] at e
  exact e
theorem b_streams (k : Nat) {R M : Store} (h : Bag R M) : ∃ (m : Nat) (M' : Store), F (k + 2) 41 [.ref 0, .int 3] M = .ok (.tup (abcde.take m)) M' ∧ Bag R M' ∧ 1 ≤ m ∧ m ≤ 3 := by
  obtain ⟨v, M', e, hb, h0, h1⟩ := b_take k h 3 (by omega) (by omega)
  refine ⟨(1 + v).toNat, M', ?_, hb, by omega, by omega⟩
  have e1 : slcP M' (.tup abcde) none (some (1 + v)) = some (.tup (abcde.take (1 + v).toNat)) := by
    simp only [slcP, cut_toI abcde (show 0 ≤ 1 + v by omega)]
  have hs : 5 ≤ sizeLine := by decide
  unfold abcde at *
  obtain ⟨b0, b1, n, cs, rfl, _⟩ := h
  obtain ⟨c0, c1, m, cs', rfl, _⟩ := hb
  rw [F_run (n := 0) rfl rfl rfl]
  simp [e, binP, add_ok, hs, e1]
end My
set_option maxHeartbeats 4000000
namespace My
open PySem DI
theorem rng0_map (n : Nat) : rngL 0 1 n = (List.range n).map fun j : Nat => PV.int (j : Int) := by
  unfold rngL
  simp
/-- n draws of `_law_some(bag, xs)` -/
theorem comp_some (k : Nat) {R M : Store} (h : Bag R M) (n : Nat) (xs : List PV) (hx : 1 ≤ xs.length) (hx2 : xs.length < 1000000) (step : PV → Store → Res (Option PV))
    (hs : ∀ (j : Nat) (M x M'), Bag R M → F (k + 2) 34 [.ref 0, .lst xs] M = .ok x M' → step (.int (j : Int)) M = .ok (some x) M') :
    ∃ ys M', compR [] step ((List.range n).map fun j : Nat => PV.int (j : Int)) M = .ok ys M' ∧ Bag R M' ∧ ys.length = n ∧ ∀ y ∈ ys, y ∈ xs := by
  obtain ⟨ys, M', e, hb, hl, hr⟩ := compR_st (fun j : Nat => PV.int (j : Int)) (Bag R) (fun _ y => y ∈ xs) (items := List.range n) (step := step) h fun j _ M hM => by
    obtain ⟨x, M', e, hb, hm⟩ := b_some k hM xs hx hx2
    exact ⟨x, M', hs j M x M' hM e, hb, hm⟩
  refine ⟨ys, M', e, hb, by simpa using hl, fun y hy => ?_⟩
  obtain ⟨i, hi, rfl⟩ := List.getElem_of_mem hy
  have hlt : i < (List.range n).length := by omega
  exact hr i ((List.range n)[i]) ys[i] (List.getElem?_eq_getElem hlt) (List.getElem?_eq_getElem hi)
end My
set_option maxHeartbeats 4000000
namespace My
open PySem DI
theorem fr_of {q : Rat} {a : Int} {b : Int} (h1 : q.num = a) (h2 : (q.den : Int) = b) : PV.tup [.int a, .int b] = fr q := by
  subst h1 h2
  rfl
/-- what `_law_rate` gives -/
def RateOk (p : PV) : Prop := ∃ q : Rat, p = fr q ∧ 0 ≤ q ∧ q.den ≤ 4 ∧ q.num ≤ 4
def rates8 : List PV := [.tup [.int 0, .int 1], .tup [.int 1, .int 1], .tup [.int 1, .int 2], .tup [.int 1, .int 3], .tup [.int 2, .int 3], .tup [.int 3, .int 2], .tup [.int 1, .int 4], .tup [.int 2, .int 1]]
theorem rates8_ok : ∀ p ∈ rates8, RateOk p := by
  intro p hp
  simp only [rates8, List.mem_cons, List.not_mem_nil, or_false] at hp
  rcases hp with rfl | rfl | rfl | rfl | rfl | rfl | rfl | rfl
  · exact ⟨0, fr_of (by decide +kernel) (by decide +kernel), by decide +kernel, by decide +kernel, by decide +kernel⟩
  · exact ⟨1, fr_of (by decide +kernel) (by decide +kernel), by decide +kernel, by decide +kernel, by decide +kernel⟩
  · exact ⟨1 / 2, fr_of (by decide +kernel) (by decide +kernel), by decide +kernel, by decide +kernel, by decide +kernel⟩
  · exact ⟨1 / 3, fr_of (by decide +kernel) (by decide +kernel), by decide +kernel, by decide +kernel, by decide +kernel⟩
  · exact ⟨2 / 3, fr_of (by decide +kernel) (by decide +kernel), by decide +kernel, by decide +kernel, by decide +kernel⟩
  · exact ⟨3 / 2, fr_of (by decide +kernel) (by decide +kernel), by decide +kernel, by decide +kernel, by decide +kernel⟩
  · exact ⟨1 / 4, fr_of (by decide +kernel) (by decide +kernel), by decide +kernel, by decide +kernel, by decide +kernel⟩
  · exact ⟨2, fr_of (by decide +kernel) (by decide +kernel), by decide +kernel, by decide +kernel, by decide +kernel⟩
theorem b_rate (k : Nat) {R M : Store} (h : Bag R M) : ∃ (q : Rat) (M' : Store), F (k + 3) 43 [.ref 0] M = .ok (fr q) M' ∧ Bag R M' ∧ 0 ≤ q ∧ q.den ≤ 4 ∧ q.num ≤ 4 := by
  obtain ⟨x, M', e, hb, hm⟩ := b_some k h rates8 (by decide) (by decide)
  obtain ⟨q, rfl, h1, h2, h3⟩ := rates8_ok x hm
  refine ⟨q, M', ?_, hb, h1, h2, h3⟩
  have hs : 8 ≤ sizeLine := by decide
  unfold rates8 at e
  generalize fr q = y at *
  obtain ⟨b0, b1, n, cs, rfl, _⟩ := h
  obtain ⟨c0, c1, m, cs', rfl, _⟩ := hb
  rw [F_run (n := 0) rfl rfl rfl]
  simp [e, sz2, hs]
end My
set_option maxHeartbeats 4000000
namespace My
open PySem DI
/-! ### Kadane -/
def val (rate : Rat) (l : List Int) : Rat := ((l.sum : Int) : Rat) - rate * ((l.length : Int) : Rat)
theorem rmax_l (p q : Rat) : p ≤ rmax p q := by
  unfold rmax
  split <;> grind
theorem rmax_r (p q : Rat) : q ≤ rmax p q := by
  unfold rmax
  split <;> grind
theorem rmax_or (p q : Rat) : rmax p q = p ∨ rmax p q = q := by
  unfold rmax
  split
  · exact .inr rfl
  · exact .inl rfl
theorem val_cons (rate : Rat) (c : Int) (l : List Int) : val rate (c :: l) = ((c : Rat) - rate) + val rate l := by
  unfold val
  rw [List.sum_cons, List.length_cons, Rat.intCast_add]
  have : (((l.length + 1 : Nat) : Int) : Rat) = ((l.length : Int) : Rat) + 1 := by
    rw [Int.natCast_add, Rat.intCast_add]
    rfl
  rw [this]
  grind
theorem val_nil (rate : Rat) : val rate [] = 0 := by
  unfold val
  simp
  grind
theorem kad_f (rate : Rat) : ∀ (cs : List Int) (f h : Rat), f ≤ kad rate f h cs
  | [], f, h => Rat.le_refl
  | c :: cs, f, h => by
    have := kad_f rate cs (rmax f (kstep rate h c)) (kstep rate h c)
    have h2 := rmax_l f (kstep rate h c)
    unfold kad
    grind
theorem kad_pre (rate : Rat) : ∀ (p q : List Int) (f h : Rat), p ≠ [] → h + val rate p ≤ kad rate f h (p ++ q)
  | [], q, f, h, hp => absurd rfl hp
  | [c], q, f, h, _ => by
    have h1 := kad_f rate q (rmax f (kstep rate h c)) (kstep rate h c)
    have h2 := rmax_r f (kstep rate h c)
    have h3 : h + ((c : Rat) - rate) ≤ kstep rate h c := rmax_r 0 _
    rw [val_cons, val_nil]
    show _ ≤ kad rate (rmax f (kstep rate h c)) (kstep rate h c) q
    grind
  | c :: d :: p, q, f, h, _ => by
    have h1 := kad_pre rate (d :: p) q (rmax f (kstep rate h c)) (kstep rate h c) (by simp)
    have h3 : h + ((c : Rat) - rate) ≤ kstep rate h c := rmax_r 0 _
    rw [val_cons]
    show _ ≤ kad rate (rmax f (kstep rate h c)) (kstep rate h c) (d :: p ++ q)
    grind
theorem kad_win (rate : Rat) : ∀ (pre mid post : List Int) (f h : Rat), 0 ≤ h → mid ≠ [] → val rate mid ≤ kad rate f h (pre ++ mid ++ post)
  | [], mid, post, f, h, h0, hm => by
    have := kad_pre rate mid post f h hm
    rw [List.nil_append]
    grind
  | c :: pre, mid, post, f, h, h0, hm => by
    have := kad_win rate pre mid post (rmax f (kstep rate h c)) (kstep rate h c) (rmax_l 0 _) hm
    exact this
theorem kad_mem (rate : Rat) : ∀ (cs : List Int) (f h : Rat), kad rate f h cs = f ∨ kad rate f h cs = 0 ∨ (∃ pre mid post, cs = pre ++ mid ++ post ∧ mid ≠ [] ∧ kad rate f h cs = val rate mid) ∨ ∃ p q, cs = p ++ q ∧ p ≠ [] ∧ kad rate f h cs = h + val rate p
  | [], f, h => .inl rfl
  | c :: cs, f, h => by
    have ih := kad_mem rate cs (rmax f (kstep rate h c)) (kstep rate h c)
    have e : kad rate f h (c :: cs) = kad rate (rmax f (kstep rate h c)) (kstep rate h c) cs := rfl
    rw [e]
    have hk : kstep rate h c = 0 ∨ kstep rate h c = h + ((c : Rat) - rate) := rmax_or 0 _
    rcases ih with ih | ih | ⟨pre, mid, post, rfl, hm, ih⟩ | ⟨p, q, rfl, hp, ih⟩
    · rcases rmax_or f (kstep rate h c) with hf | hf
      · exact .inl (ih.trans hf)
      · rcases hk with hk | hk
        · exact .inr (.inl (ih.trans (hf.trans hk)))
        · refine .inr (.inr (.inr ⟨[c], cs, rfl, by simp, ?_⟩))
          rw [ih, hf, hk, val_cons, val_nil]
          grind
    · exact .inr (.inl ih)
    · exact .inr (.inr (.inl ⟨c :: pre, mid, post, rfl, hm, ih⟩))
    · rcases hk with hk | hk
      · refine .inr (.inr (.inl ⟨[c], p, q, rfl, hp, ?_⟩))
        rw [ih, hk]
        grind
      · refine .inr (.inr (.inr ⟨c :: p, q, rfl, by simp, ?_⟩))
        rw [ih, hk, val_cons]
        grind
/-- the greatest of 0 and of all windows -/
structure IsMax (rate : Rat) (cs : List Int) (x : Rat) : Prop where
  mem : x = 0 ∨ ∃ pre mid post, cs = pre ++ mid ++ post ∧ mid ≠ [] ∧ x = val rate mid
  zero : 0 ≤ x
  win : ∀ pre mid post, cs = pre ++ mid ++ post → mid ≠ [] → val rate mid ≤ x
theorem IsMax.uniq {rate : Rat} {cs : List Int} {x y : Rat} (hx : IsMax rate cs x) (hy : IsMax rate cs y) : x = y := by
  have key : ∀ {x y : Rat}, IsMax rate cs x → IsMax rate cs y → x ≤ y := fun {x y} hx hy => by
    rcases hx.mem with e | ⟨pre, mid, post, e, hm, e2⟩
    · rw [e]; exact hy.zero
    · rw [e2]; exact hy.win pre mid post e hm
  exact Rat.le_antisymm (key hx hy) (key hy hx)
theorem kad_max (rate : Rat) (cs : List Int) : IsMax rate cs (kad rate 0 0 cs) where
  mem := by
    rcases kad_mem rate cs 0 0 with h | h | h | ⟨p, q, e, hp, h⟩
    · exact .inl h
    · exact .inl h
    · exact .inr h
    · exact .inr ⟨[], p, q, by simpa using e, hp, by rw [h]; grind⟩
  zero := kad_f rate cs 0 0
  win := fun pre mid post e hm => by
    rw [e]
    exact kad_win rate pre mid post 0 0 Rat.le_refl hm
end My
set_option maxHeartbeats 4000000
namespace My
open PySem DI
theorem val_over (rate : Rat) (l : List Int) : Over rate.den (val rate l) := by
  unfold val
  refine (Over.int _).sub ?_
  obtain ⟨n, h⟩ := Over.self rate
  exact ⟨n * l.length, by rw [Rat.mul_assoc, Rat.mul_comm ((l.length : Int) : Rat), ← Rat.mul_assoc, h, Rat.intCast_mul]⟩
theorem cut_nat (xs : List PV) (i j : Nat) (hj : j ≤ xs.length) (hi : i ≤ j) : cutP xs (some i) (some j) = (xs.drop i).take (j - i) := by
  unfold cutP
  rw [HT.sIx_nat, HT.sIx_nat, Nat.min_eq_left (by omega), Nat.min_eq_left (by omega)]
theorem slc_win {M : Store} (cs : List Int) (i j : Nat) (hj : j < cs.length) (hi : i ≤ j) : slcP M (.lst (cs.map .int)) (some (i : Int)) (some ((j : Int) + 1)) = some (.lst (((cs.drop i).take (j + 1 - i)).map .int)) := by
  have h := cut_nat (cs.map .int) i (j + 1) (by simp; omega) (by omega)
  simp only [slcP]
  rw [show ((j : Int) + 1) = ((j + 1 : Nat) : Int) by omega, h, List.map_take, List.map_drop]
theorem intsOf_map : ∀ l : List Int, intsOf (l.map .int) = some l
  | [] => rfl
  | x :: l => by simp only [List.map_cons, intsOf, intsOf_map l]
theorem sum_of {M : Store} (l : List Int) : biP .sum M [.lst (l.map .int)] = some (.int l.sum) := by
  simp [biP, sumF, itemsL, intsOf_map]
end My
set_option maxHeartbeats 4000000
namespace My
open PySem DI
theorem fr_int (n : Int) : fr (n : Rat) = .tup [.int n, .int 1] := rfl
def cITS : CE := (.call 37 (.cons (.tup (.cons (.callB .sum (.cons (.slc (.var 0) (some (.var 3)) (some (.bin .Add (.var 4) (.int 1)))) .nil)) (.cons (.int 1) .nil))) (.cons (.call 39 (.cons (.call 38 (.cons (.var 1) (.cons (.tup (.cons (.bin .Sub (.bin .Add (.var 4) (.int 1)) (.var 3)) (.cons (.int 1) .nil))) .nil))) .nil)) .nil)))
theorem e_its (k : Nat) (rate : Rat) (cs : List Int) (i j : Nat) (hj : j < cs.length) (hi : i ≤ j) (hl : cs.length < 1000) (hd : rate.den < 2 ^ 64) (o5 o2 : Option PV) (M : Store) :
    ev T (F (k + 3)) cITS [some (.lst (cs.map .int)), some (fr rate), o2, some (.int i), some (.int j), o5] M = .ok (fr (val rate ((cs.drop i).take (j + 1 - i)))) M := by
  have hlen : ((cs.drop i).take (j + 1 - i)).length = j + 1 - i := by simp; omega
  have hs := slc_win (M := M) cs i j hj hi
  have e0 := sum_of (M := M) ((cs.drop i).take (j + 1 - i))
  have hv : val rate ((cs.drop i).take (j + 1 - i)) = (((cs.drop i).take (j + 1 - i)).sum : Rat) + -(rate * (((j : Int) + 1 - i : Int) : Rat)) := by
    unfold val
    rw [hlen, Rat.sub_eq_add_neg, show ((j + 1 - i : Nat) : Int) = (j : Int) + 1 - i by omega]
  rw [hv]
  generalize (cs.drop i).take (j + 1 - i) = w at *
  have hsm : smI ((((j : Int) + 1 - i : Int) : Rat).num) = true := by
    show smI ((j : Int) + 1 - i) = true
    simp only [smI, Bool.and_eq_true, decide_eq_true_eq]
    omega
  have hden1 : ((((j : Int) + 1 - i : Int) : Rat)).den < 2 ^ 64 := by
    show 1 < 2 ^ 64
    decide
  have e1 := f_law_mul (k + 1) rate (((j : Int) + 1 - i : Int) : Rat) hd hden1 hsm M
  have e2 := f_law_neg (k + 2) (rate * (((j : Int) + 1 - i : Int) : Rat)) M
  have hden2 : (-(rate * (((j : Int) + 1 - i : Int) : Rat))).den < 2 ^ 64 := by
    have ho : Over rate.den (-(rate * (((j : Int) + 1 - i : Int) : Rat))) := by
      obtain ⟨n, h⟩ := Over.self rate
      exact Over.neg ⟨n * ((j : Int) + 1 - i), by rw [Rat.mul_assoc, Rat.mul_comm _ ((rate.den : Nat) : Rat), ← Rat.mul_assoc, h, Rat.intCast_mul]⟩
    exact Nat.lt_of_le_of_lt (ho.den rate.den_pos) hd
  have e3 := f_law_add (k + 1) ((w.sum : Int) : Rat) (-(rate * (((j : Int) + 1 - i : Int) : Rat))) (by show 1 < 2 ^ 64; decide) hden2 M
  generalize fr (((w.sum : Int) : Rat) + -(rate * (((j : Int) + 1 - i : Int) : Rat))) = y3 at *
  generalize fr (-(rate * (((j : Int) + 1 - i : Int) : Rat))) = y2 at *
  generalize fr (rate * (((j : Int) + 1 - i : Int) : Rat)) = y1 at *
  rw [fr_int] at e1 e3
  generalize fr rate = y0 at *
  simp [cITS, hs, e0, binP, addP, subP, sz2, e1, e2, e3]
end My
set_option maxHeartbeats 4000000
namespace My
open PySem DI
def W (rate : Rat) (cs : List Int) (a b : Nat) : Rat := val rate ((cs.drop a).take (b + 1 - a))
structure Seen (rate : Rat) (cs : List Int) (P : Nat → Nat → Prop) (x : Rat) : Prop where
  mem : x = 0 ∨ ∃ a b, a ≤ b ∧ b < cs.length ∧ x = W rate cs a b
  zero : 0 ≤ x
  win : ∀ a b, P a b → a ≤ b → b < cs.length → W rate cs a b ≤ x
theorem Seen.add {rate : Rat} {cs : List Int} {P : Nat → Nat → Prop} {x : Rat} (h : Seen rate cs P x) {i j : Nat} (hi : i ≤ j) (hj : j < cs.length) {P' : Nat → Nat → Prop} (hP : ∀ a b, P' a b → P a b ∨ (a = i ∧ b = j)) : Seen rate cs P' (rmax x (W rate cs i j)) where
  mem := by
    rcases rmax_or x (W rate cs i j) with e | e
    · rw [e]; exact h.mem
    · exact .inr ⟨i, j, hi, hj, e⟩
  zero := by
    have := h.zero
    have := rmax_l x (W rate cs i j)
    grind
  win := fun a b hp ha hb => by
    rcases hP a b hp with q | ⟨rfl, rfl⟩
    · have := h.win a b q ha hb
      have := rmax_l x (W rate cs i j)
      grind
    · exact rmax_r _ _
theorem Seen.max {rate : Rat} {cs : List Int} {P : Nat → Nat → Prop} {x : Rat} (h : Seen rate cs P x) (hP : ∀ a b, a ≤ b → b < cs.length → P a b) : IsMax rate cs x where
  mem := by
    rcases h.mem with e | ⟨a, b, ha, hb, e⟩
    · exact .inl e
    · refine .inr ⟨cs.take a, (cs.drop a).take (b + 1 - a), (cs.drop a).drop (b + 1 - a), ?_, ?_, e⟩
      · rw [List.append_assoc, List.take_append_drop, List.take_append_drop]
      · intro z
        have := congrArg List.length z
        simp at this
        omega
  zero := h.zero
  win := fun pre mid post e hm => by
    have hl : 0 < mid.length := List.length_pos_iff.mpr hm
    have hlen : cs.length = pre.length + mid.length + post.length := by rw [e]; simp [Nat.add_assoc]
    have := h.win pre.length (pre.length + mid.length - 1) (hP _ _ (by omega) (by omega)) (by omega) (by omega)
    have e2 : W rate cs pre.length (pre.length + mid.length - 1) = val rate mid := by
      unfold W
      rw [e, List.append_assoc, List.drop_left', List.take_left' (by omega)]
      rfl
    rw [e2] at this
    exact this
end My
set_option maxHeartbeats 4000000
namespace My
open PySem DI
theorem rngL_map (lo : Int) (n : Nat) : rngL lo 1 n = (List.range n).map fun t : Nat => PV.int (lo + (t : Int)) := by
  unfold rngL
  simp
/-- one window of the law's burst -/
def cBody : CSs := (.cons (.asg (.name 5) cITS) (.cons (.asg (.name 2) (.ife (.call 40 (.cons (.var 2) (.cons (.var 5) .nil))) (.var 5) (.var 2))) .nil))
theorem e_body (k : Nat) (rate x : Rat) (cs : List Int) (i j : Nat) (hj : j < cs.length) (hi : i ≤ j) (hl : cs.length < 1000) (hd : rate.den < 2 ^ 64) (hx : x.den < 2 ^ 64) (o5 : Option PV) (M : Store) :
    exs T (F (k + 3)) cBody [some (.lst (cs.map .int)), some (fr rate), some (fr x), some (.int i), some (.int j), o5] M = .nx [some (.lst (cs.map .int)), some (fr rate), some (fr (rmax x (W rate cs i j))), some (.int i), some (.int j), some (fr (W rate cs i j))] M := by
  have e1 := e_its k rate cs i j hj hi hl hd o5 (some (fr x)) M
  have hw : (W rate cs i j).den < 2 ^ 64 := Nat.lt_of_le_of_lt ((val_over rate _).den rate.den_pos) hd
  have e2 := f_law_below (k + 2) x (W rate cs i j) hx hw M
  unfold W at *
  unfold rmax
  generalize val rate ((cs.drop i).take (j + 1 - i)) = w at *
  by_cases h : x < w
  · rw [if_pos h]
    simp only [h, decide_true] at e2
    generalize fr x = y1 at *
    generalize fr w = y2 at *
    generalize fr rate = y3 at *
    simp [cBody, e1, e2]
  · rw [if_neg h]
    simp only [h, decide_false] at e2
    generalize fr x = y1 at *
    generalize fr w = y2 at *
    generalize fr rate = y3 at *
    simp [cBody, e1, e2]
end My
set_option maxHeartbeats 4000000
namespace My
open PySem DI
/-- all windows that begin at i -/
theorem e_inner (k : Nat) (rate x : Rat) (cs : List Int) (i : Nat) (hi : i < cs.length) (hl : cs.length < 1000) (hd : rate.den < 2 ^ 64) (o4 o5 : Option PV) (M : Store) (hs : Seen rate cs (fun a b => a < i) x) (ho : Over rate.den x) :
    ∃ x' p4 p5, forR [] (asg (.name 4)) (exs T (F (k + 3)) cBody) (rngL i 1 (cs.length - i)) [some (.lst (cs.map .int)), some (fr rate), some (fr x), some (.int i), o4, o5] M = .nx [some (.lst (cs.map .int)), some (fr rate), some (fr x'), some (.int i), p4, p5] M ∧
      Seen rate cs (fun a b => a < i + 1) x' ∧ Over rate.den x' := by
  have small : ∀ {p : Rat}, Over rate.den p → p.den < 2 ^ 64 := fun h => Nat.lt_of_le_of_lt (h.den rate.den_pos) hd
  rw [rngL_map]
  obtain ⟨sp', M', e, h⟩ := forR_inv (b := asg (.name 4)) (body := exs T (F (k + 3)) cBody) (fun t : Nat => PV.int ((i : Int) + (t : Int))) (items := List.range (cs.length - i)) (i := 0)
    (sp := [some (.lst (cs.map .int)), some (fr rate), some (fr x), some (.int i), o4, o5]) (M := M)
    (fun t sp M' => M' = M ∧ ∃ x' p4 p5, sp = [some (.lst (cs.map .int)), some (fr rate), some (fr x'), some (.int i), p4, p5] ∧ Seen rate cs (fun a b => a < i ∨ (a = i ∧ b < i + t)) x' ∧ Over rate.den x')
    ⟨rfl, x, o4, o5, rfl, ⟨hs.mem, hs.zero, fun a b h hab hb => hs.win a b (by omega) hab hb⟩, ho⟩
    (fun j t sp M' ht hI => by
      obtain ⟨rfl, x', p4, p5, rfl, h1, h2⟩ := hI
      have hjt : t = j := by
        rw [List.getElem?_range (by
          have := (List.getElem?_eq_some_iff.mp ht).1
          simpa using this)] at ht
        exact (Option.some.inj ht).symm
      have hlt : j < cs.length - i := by
        have := (List.getElem?_eq_some_iff.mp ht).1
        simpa using this
      subst hjt
      refine ⟨[some (.lst (cs.map .int)), some (fr rate), some (fr x'), some (.int i), some (.int ((i : Int) + (t : Int))), p5], by simp [asg], _, _, .inl ?_, rfl, rmax x' (W rate cs i (i + t)), some (.int ((i : Int) + (t : Int))), some (fr (W rate cs i (i + t))), rfl, h1.add (i := i) (j := i + t) (by omega) (by omega) (fun a b h => by omega), h2.max (val_over rate _)⟩
      have := e_body k rate x' cs i (i + t) (by omega) (by omega) hl hd (small h2) p5 M'
      rw [Int.natCast_add] at this
      exact this)
  obtain ⟨rfl, x', p4, p5, rfl, h1, h2⟩ := h
  refine ⟨x', p4, p5, e, ⟨h1.mem, h1.zero, fun a b hab h3 h4 => h1.win a b (by simp; omega) h3 h4⟩, h2⟩
end My
set_option maxHeartbeats 4000000
namespace My
open PySem DI
def cOuter : CSs := (.cons (.forS (.name 4) (.rng2 (.var 3) (.callB .len (.cons (.var 0) .nil))) cBody) .nil)
theorem e_outer (k : Nat) (rate : Rat) (cs : List Int) (hl : cs.length < 1000) (hd : rate.den < 2 ^ 64) (M : Store) :
    ∃ p3 p4 p5, forR [] (asg (.name 3)) (exs T (F (k + 3)) cOuter) (rngL 0 1 cs.length) [some (.lst (cs.map .int)), some (fr rate), some (fr 0), none, none, none] M = .nx [some (.lst (cs.map .int)), some (fr rate), some (fr (kad rate 0 0 cs)), p3, p4, p5] M := by
  rw [rngL_map]
  obtain ⟨sp', M', e, h⟩ := forR_inv (b := asg (.name 3)) (body := exs T (F (k + 3)) cOuter) (fun t : Nat => PV.int (0 + (t : Int))) (items := List.range cs.length) (i := 0)
    (sp := [some (.lst (cs.map .int)), some (fr rate), some (fr 0), none, none, none]) (M := M)
    (fun t sp M' => M' = M ∧ ∃ x' p3 p4 p5, sp = [some (.lst (cs.map .int)), some (fr rate), some (fr x'), p3, p4, p5] ∧ Seen rate cs (fun a b => a < t) x' ∧ Over rate.den x')
    ⟨rfl, 0, none, none, none, rfl, ⟨.inl rfl, Rat.le_refl, fun a b h => by omega⟩, Over.int 0⟩
    (fun j t sp M' ht hI => by
      obtain ⟨rfl, x', p3, p4, p5, rfl, h1, h2⟩ := hI
      have hlt : j < cs.length := by
        have := (List.getElem?_eq_some_iff.mp ht).1
        simpa using this
      have hjt : t = j := by
        rw [List.getElem?_range hlt] at ht
        exact (Option.some.inj ht).symm
      subst hjt
      rw [Nat.zero_add] at h1 ⊢
      obtain ⟨x2, q4, q5, e2, h3, h4⟩ := e_inner k rate x' cs t hlt hl hd p4 p5 M' h1 h2
      refine ⟨[some (.lst (cs.map .int)), some (fr rate), some (fr x'), some (.int (t : Int)), p4, p5], by simp [asg], _, _, .inl ?_, rfl, x2, some (.int t), q4, q5, rfl, h3, h4⟩
      have hr : rngIt (t : Int) (cs.length : Int) = some ⟨rngL t 1 (cs.length - t), []⟩ := by
        unfold rngIt
        have e0 : ((cs.length : Int) - (t : Int)).toNat = cs.length - t := by omega
        have hz : 1000 ≤ sizeLine := by decide
        rw [if_pos (by simp only [rngOk, Bool.and_eq_true, decide_eq_true_eq]; omega), e0]
      generalize fr rate = y1 at *
      generalize fr x' = y2 at *
      generalize fr x2 = y3 at *
      unfold cOuter
      rw [exs_cons, ex_for, evI_rng2, ev_var]
      generalize hsl : ([some (.lst (cs.map .int)), some y1, some y2, some (.int (t : Int)), p4, p5] : Sl) = sl at *
      have g3 : sl[3]? = some (some (.int (t : Int))) := by rw [← hsl]; rfl
      have g0 : sl[0]? = some (some (.lst (cs.map .int))) := by rw [← hsl]; rfl
      rw [g3, varK_some, bind_ok, ev_callB, evs_cons, ev_var, g0, varK_some, bind_ok, evs_nil, bind_ok, bind_ok]
      have hlen : biP .len M' [.lst (cs.map .int)] = some (.int (cs.length : Int)) := by simp [biP, lenF, lenP]
      rw [hlen, ofO_some, bind_ok, rng2K_int, hr, ofO_some, ofR_ok, e2, seq_nx, exs_nil])
  obtain ⟨rfl, x', p3, p4, p5, rfl, h1, h2⟩ := h
  have hx : x' = kad rate 0 0 cs := (h1.max fun a b _ _ => by simp; omega).uniq (kad_max rate cs)
  subst hx
  exact ⟨p3, p4, p5, e⟩
end My
set_option maxHeartbeats 4000000
namespace My
open PySem DI
theorem rmax_comm (p q : Rat) : rmax p q = rmax q p := by
  unfold rmax
  split <;> split <;> grind
theorem rngIt_0 {n : Nat} (h : n ≤ 1000) : rngIt 0 (n : Int) = some ⟨rngL 0 1 n, []⟩ := by
  unfold rngIt
  have e0 : ((n : Int) - 0).toNat = n := by omega
  have hz : 1000 ≤ sizeLine := by decide
  rw [if_pos (by simp only [rngOk, Bool.and_eq_true, decide_eq_true_eq]; omega), e0]
theorem f0 : fr 0 = .tup [.int 0, .int 1] := rfl
theorem f1 : fr 1 = .tup [.int 1, .int 1] := rfl
theorem kad_over (rate : Rat) : ∀ (cs : List Int) (f h : Rat), Over rate.den f → Over rate.den h → Over rate.den (kad rate f h cs)
  | [], f, h, hf, hh => hf
  | c :: cs, f, h, hf, hh => by
    have hs : Over rate.den (kstep rate h c) := (Over.int 0).max (hh.add ((Over.int c).sub (Over.self rate)))
    exact kad_over rate cs _ _ (hf.max hs) hs
def cTail : CSs := (.cons (.ite (.andE (.cons (.cmp .Eq (.var 1) (.tup (.cons (.int 0) (.cons (.int 1) .nil)))) (.cons (.cmp .Eq (.callB .sum (.cons (.var 0) .nil)) (.int 0)) .nil))) (.cons (.ret (.tup (.cons (.int 0) (.cons (.int 1) .nil)))) .nil) .nil) (.cons (.ret (.ife (.call 40 (.cons (.var 2) (.cons (.tup (.cons (.int 1) (.cons (.int 1) .nil))) .nil))) (.tup (.cons (.int 1) (.cons (.int 1) .nil))) (.var 2))) .nil))
theorem e_tail (k : Nat) (rate x : Rat) (cs : List Int) (hx : x.den < 2 ^ 64) (p3 p4 p5 : Option PV) (M : Store) :
    exs T (F (k + 3)) cTail [some (.lst (cs.map .int)), some (fr rate), some (fr x), p3, p4, p5] M = .ret (fr (if rate = 0 ∧ cs.sum = 0 then 0 else rmax x 1)) M := by
  have eb := f_law_below (k + 2) x 1 hx (by decide) M
  have hq := @eqP_fr M rate 0
  have hsum := sum_of (M := M) cs
  rw [f0] at hq
  rw [f1] at eb
  unfold rmax
  by_cases h1 : rate = 0 ∧ cs.sum = 0
  · rw [if_pos h1, f0]
    obtain ⟨h1, h2⟩ := h1
    simp only [h1, decide_true] at hq ⊢
    generalize fr x = y1 at *
    generalize fr 0 = y2 at *
    generalize cs.map PV.int = z at *
    simp [cTail, cmpP, hq, hsum, h2, sz2]
  · rw [if_neg h1]
    have hb : (decide (rate = 0) && decide (cs.sum = 0)) = false := by
      simp only [Bool.and_eq_false_iff, decide_eq_false_iff_not]
      by_cases h : rate = 0
      · exact .inr fun e => h1 ⟨h, e⟩
      · exact .inl h
    generalize decide (rate = 0) = b at *
    by_cases h3 : x < 1
    · rw [if_pos h3, f1]
      simp only [h3, decide_true] at eb
      generalize fr x = y1 at *
      generalize fr rate = y2 at *
      generalize cs.map PV.int = z at *
      cases b <;> simp_all [cTail, cmpP, sz2]
    · rw [if_neg h3]
      simp only [h3, decide_false] at eb
      generalize fr x = y1 at *
      generalize fr rate = y2 at *
      generalize cs.map PV.int = z at *
      cases b <;> simp_all [cTail, cmpP, sz2]
theorem f_law_burst (k : Nat) (rate : Rat) (cs : List Int) (hl : cs.length < 1000) (hd : rate.den < 2 ^ 64) (M : Store) :
    F (k + 4) 47 [.lst (cs.map .int), fr rate] M = .ok (fr (if rate = 0 ∧ cs.sum = 0 then 0 else rmax 1 (kad rate 0 0 cs))) M := by
  obtain ⟨p3, p4, p5, e⟩ := e_outer k rate cs hl hd M
  have hx : (kad rate 0 0 cs).den < 2 ^ 64 := Nat.lt_of_le_of_lt ((kad_over rate cs 0 0 (Over.int 0) (Over.int 0)).den rate.den_pos) hd
  have et := e_tail k rate (kad rate 0 0 cs) cs hx p3 p4 p5 M
  have hr := rngIt_0 (n := cs.length) (by omega)
  have hlen : biP .len M [.lst (cs.map .int)] = some (.int (cs.length : Int)) := by simp [biP, lenF, lenP]
  rw [rmax_comm 1]
  generalize fr (if rate = 0 ∧ cs.sum = 0 then 0 else rmax (kad rate 0 0 cs) 1) = r at *
  generalize fr (kad rate 0 0 cs) = y1 at *
  generalize fr rate = y0 at *
  rw [F_run (n := 4) rfl rfl rfl]
  show runK M.length (exs T (F (k + 3)) (.cons (.asg (.name 2) (.tup (.cons (.int 0) (.cons (.int 1) .nil)))) (.cons (.forS (.name 3) (.rng1 (.callB .len (.cons (.var 0) .nil))) cOuter) cTail)) [some (.lst (cs.map .int)), some y0, none, none, none, none] M) = _
  have s1 : ex T (F (k + 3)) (.asg (.name 2) (.tup (.cons (.int 0) (.cons (.int 1) .nil)))) [some (.lst (cs.map .int)), some y0, none, none, none, none] M = .nx [some (.lst (cs.map .int)), some y0, some (fr 0), none, none, none] M := by
    rw [f0]
    simp [sz2]
  rw [exs_cons, s1, seq_nx, exs_cons, ex_for, evI_rng1, ev_callB, evs_cons, ev_var]
  generalize hsl : ([some (.lst (cs.map .int)), some y0, some (fr 0), none, none, none] : Sl) = sl at *
  have g0 : sl[0]? = some (some (.lst (cs.map .int))) := by rw [← hsl]; rfl
  rw [g0, varK_some, bind_ok, evs_nil, bind_ok, bind_ok, hlen, ofO_some, bind_ok, rng1K_int, hr, ofO_some, ofR_ok, e, seq_nx, et, runK_ret, gcM_self]
end My
set_option maxHeartbeats 4000000
namespace My
open PySem DI
/-! ### the tests of a thing's form -/
theorem num_bl (k : Nat) (b : Bool) (M : Store) : F (k + 1) 0 [.bl b] M = .ok (.bl false) M := by
  rw [F_run (n := 0) rfl rfl rfl]
  simp [biP, isinstF, tyNm]
theorem num_str (k : Nat) (b : Str) (M : Store) : F (k + 1) 0 [.str b] M = .ok (.bl false) M := by
  rw [F_run (n := 0) rfl rfl rfl]
  simp [biP, isinstF, tyNm]
theorem index_int (k : Nat) (i : Int) (M : Store) : F (k + 2) 1 [.int i] M = .ok (.bl (decide (0 ≤ i))) M := by
  have e := f_is_number_int k i M
  rw [F_run (n := 0) rfl rfl rfl]
  simp [e, cmpP, geP]
theorem index_bl (k : Nat) (i : Bool) (M : Store) : F (k + 2) 1 [.bl i] M = .ok (.bl false) M := by
  have e := num_bl k i M
  rw [F_run (n := 0) rfl rfl rfl]
  simp [e]
theorem index_str (k : Nat) (i : Str) (M : Store) : F (k + 2) 1 [.str i] M = .ok (.bl false) M := by
  have e := num_str k i M
  rw [F_run (n := 0) rfl rfl rfl]
  simp [e]
theorem sized_tup (k : Nat) (xs : List PV) (n : Int) (M : Store) : F (k + 1) 2 [.tup xs, .int n] M = .ok (.bl (decide ((xs.length : Int) = n))) M := by
  rw [F_run (n := 0) rfl rfl rfl]
  simp [biP, isinstF, tyNm, lenF, lenP, cmpP]
theorem sized_int (k : Nat) (i n : Int) (M : Store) : F (k + 1) 2 [.int i, .int n] M = .ok (.bl false) M := by
  rw [F_run (n := 0) rfl rfl rfl]
  simp [biP, isinstF, tyNm]
theorem tupof (k f : Nat) (xs : List PV) (p : PV → Bool) (M : Store) (h : ∀ x ∈ xs, F k f [x] M = .ok (.bl (p x)) M) : F (k + 1) 3 [.tup xs, .fn f] M = .ok (.bl (xs.all p)) M := by
  have e := compR_map (step := stepC (.name 2) [2] (evC T (F k) none) (ev T (F k) (.callV 1 (.cons (.var 2) .nil))) [some (.tup xs), some (.fn f), none]) (M := M) (fun x => .bl (p x)) (items := xs) (fun x hx => by simp [stepC, asg, wipeP, h x hx])
  rw [F_run (n := 1) rfl rfl rfl]
  have e2 : (xs.map p).all id = xs.all p := by simp
  simp [biP, isinstF, tyNm, seqIt, e, allF, itemsL, blsOf_map]
theorem tupof_lst (k f : Nat) (xs : List PV) (M : Store) : F (k + 1) 3 [.lst xs, .fn f] M = .ok (.bl false) M := by
  rw [F_run (n := 1) rfl rfl rfl]
  simp [biP, isinstF, tyNm]
theorem tupof_non (k f : Nat) (M : Store) : F (k + 1) 3 [.non, .fn f] M = .ok (.bl false) M := by
  rw [F_run (n := 1) rfl rfl rfl]
  simp [biP, isinstF, tyNm]
theorem frac_ab (k : Nat) (a b : Int) (M : Store) : F (k + 3) 5 [.tup [.int a, .int b]] M = .ok (.bl (decide (1 ≤ b) && decide (Int.gcd a b = 1))) M := by
  have e1 := sized_tup (k + 1) [.int a, .int b] 2 M
  have e2 := tupof (k + 1) 0 [.int a, .int b] (fun _ => true) M (fun x hx => by
    simp only [List.mem_cons, List.not_mem_nil, or_false] at hx
    rcases hx with rfl | rfl <;> exact f_is_number_int k _ M)
  have e3 := f_gcd (k + 1) a b M
  rw [F_run (n := 0) rfl rfl rfl]
  simp at e1 e2
  by_cases h : b < 1
  · have h2 : ¬ 1 ≤ b := by omega
    simp [e1, e2, e3, idx1, idx0, cmpP, ltP, h, h2]
  · have h2 : 1 ≤ b := by omega
    have h3 : decide ((Int.gcd a b : Int) = 1) = decide (Int.gcd a b = 1) := by
      refine decide_eq_decide.mpr ⟨fun h => by omega, fun h => by omega⟩
    simp [e1, e2, e3, idx1, idx0, cmpP, ltP, h, h2, h3]
theorem frac_int (k : Nat) (i : Int) (M : Store) : F (k + 3) 5 [.int i] M = .ok (.bl false) M := by
  have e1 := sized_int (k + 1) i 2 M
  rw [F_run (n := 0) rfl rfl rfl]
  simp [e1]
theorem frac_fr (k : Nat) (q : Rat) (M : Store) : F (k + 3) 5 [fr q] M = .ok (.bl true) M := by
  have h := frac_ab k q.num q.den M
  have h1 : (1 : Int) ≤ q.den := by have := q.den_pos; omega
  have h2 : Int.gcd q.num q.den = 1 := q.reduced
  rw [decide_eq_true h1, decide_eq_true h2] at h
  exact h
theorem cst0 : T.cst[0]? = some (("MOST_FIGURES" : Str), .int 12) := rfl
theorem for_pow {body : Ex} {M : Store} (hb : ∀ (v : Int) (o : Option PV), body [some (.int v), o] M = .nx [some (.int (v * 10)), o] M) :
    ∀ (l : List PV) (v : Int) (o : Option PV), ∃ o', forR [] (asg (.name 1)) body l [some (.int v), o] M = .nx [some (.int (v * 10 ^ l.length)), o'] M
  | [], v, o => ⟨o, by unfold forR; rw [gdIfS_nil]; simp⟩
  | x :: l, v, o => by
    obtain ⟨o', e⟩ := for_pow hb l (v * 10) (some x)
    refine ⟨o', ?_⟩
    unfold forR
    rw [gdIfS_nil]
    simp only [asg, List.length_cons, List.length_nil, Nat.reduceAdd, Nat.reduceLT, if_true, List.set_cons_succ, List.set_cons_zero]
    rw [hb, show v * 10 ^ (l.length + 1) = v * 10 * 10 ^ l.length by rw [Int.pow_succ, Int.mul_assoc, Int.mul_comm 10]]
    exact e
theorem f_great (k : Nat) (M : Store) : F (k + 1) 6 [] M = .ok (.int 1000000000000) M := by
  have hr := rngIt_0 (n := 12) (by omega)
  obtain ⟨o', e⟩ := for_pow (body := exs T (F k) (.cons (.aug 0 .Mult (.int 10)) .nil)) (M := M) (fun v o => by
    simp [augK, augP]) (rngL 0 1 12) 1 none
  have e2 : (rngL 0 1 12).length = 12 := by simp [rngL]
  rw [e2] at e
  rw [F_run (n := 2) rfl rfl rfl]
  have hr' : rngIt 0 12 = some ⟨rngL 0 1 12, []⟩ := hr
  simp [cst0, hr', e]
theorem told_ab (k : Nat) (a b : Int) (M : Store) (h : F (k + 3) 5 [.tup [.int a, .int b]] M = .ok (.bl true) M) (h1 : -1000000000000 < a) (h2 : a < 1000000000000) (h3 : b < 1000000000000) : F (k + 4) 7 [.tup [.int a, .int b]] M = .ok (.bl true) M := by
  have e1 := f_great (k + 2) M
  rw [F_run (n := 1) rfl rfl rfl]
  simp [e1, h, idx0, idx1, negP, cmpP, ltP, h1, h2, h3]
theorem told_int (k : Nat) (i : Int) (M : Store) : F (k + 4) 7 [.int i] M = .ok (.bl false) M := by
  have e1 := f_great (k + 2) M
  have e2 := frac_int k i M
  rw [F_run (n := 1) rfl rfl rfl]
  simp [e1, e2]
/-- a fraction of few figures -/
def Few (q : Rat) : Prop := -1000000000000 < q.num ∧ q.num < 1000000000000 ∧ q.den < 1000000000000
theorem told_fr (k : Nat) (q : Rat) (h : Few q) (M : Store) : F (k + 4) 7 [fr q] M = .ok (.bl true) M :=
  told_ab k q.num q.den M (frac_fr k q M) h.1 h.2.1 (by have := h.2.2; omega)
def bdV (b : List (Rat × Rat)) : PV := .tup (b.map fun p => .tup [fr p.1, fr p.2])
theorem weights_fr (k : Nat) (p q : Rat) (hp : Few p) (hq : Few q) (M : Store) : F (k + 6) 9 [.tup [fr p, fr q]] M = .ok (.bl true) M := by
  have e := tupof (k + 4) 7 [fr p, fr q] (fun _ => true) M (fun x hx => by
    simp only [List.mem_cons, List.not_mem_nil, or_false] at hx
    rcases hx with rfl | rfl
    · exact told_fr k p hp M
    · exact told_fr k q hq M)
  generalize fr p = x at *
  generalize fr q = y at *
  rw [F_run (n := 0) rfl rfl rfl]
  simp at e
  simp [e]
theorem weights_11 (k : Nat) (M : Store) : F (k + 6) 9 [.tup [.int 1, .int 1]] M = .ok (.bl false) M := by
  have e := tupof (k + 4) 7 [.int 1, .int 1] (fun _ => false) M (fun x hx => by
    simp only [List.mem_cons, List.not_mem_nil, or_false] at hx
    rcases hx with rfl | rfl <;> exact told_int k 1 M)
  rw [F_run (n := 0) rfl rfl rfl]
  simp at e
  simp [e]
theorem form_fr (k : Nat) (p q : Rat) (hp : Few p) (hq : Few q) (M : Store) : F (k + 7) 10 [.tup [fr p, fr q]] M = .ok (.bl true) M := by
  have e1 := sized_tup (k + 5) [fr p, fr q] 2 M
  have e2 := weights_fr k p q hp hq M
  generalize fr p = x at *
  generalize fr q = y at *
  rw [F_run (n := 0) rfl rfl rfl]
  simp at e1
  simp [e1, e2]
theorem form_11 (k : Nat) (M : Store) : F (k + 7) 10 [.tup [.int 1, .int 1]] M = .ok (.bl false) M := by
  have e1 := sized_tup (k + 5) [.int 1, .int 1] 2 M
  have e2 := weights_11 k M
  rw [F_run (n := 0) rfl rfl rfl]
  simp at e1
  simp [e1, e2]
theorem bound_ok (k : Nat) (b : List (Rat × Rat)) (h : ∀ p ∈ b, Few p.1 ∧ Few p.2) (M : Store) : F (k + 9) 11 [bdV b] M = .ok (.bl true) M := by
  have e := tupof (k + 7) 10 (b.map fun p => .tup [fr p.1, fr p.2]) (fun _ => true) M (fun x hx => by
    obtain ⟨p, hp, rfl⟩ := List.mem_map.mp hx
    exact form_fr k p.1 p.2 (h p hp).1 (h p hp).2 M)
  have e2 : (b.map fun p => PV.tup [fr p.1, fr p.2]).all (fun _ => true) = true := by simp
  rw [e2] at e
  unfold bdV
  generalize (b.map fun p => PV.tup [fr p.1, fr p.2]) = l at *
  rw [F_run (n := 0) rfl rfl rfl]
  simp [e]
theorem bound_11 (k n : Nat) (hn : 1 ≤ n) (M : Store) : F (k + 9) 11 [.tup (List.replicate n (.tup [.int 1, .int 1]))] M = .ok (.bl false) M := by
  have e := tupof (k + 7) 10 (List.replicate n (.tup [.int 1, .int 1])) (fun _ => false) M (fun x hx => by
    rw [List.eq_of_mem_replicate hx]
    exact form_11 k M)
  have e2 : (List.replicate n (PV.tup [.int 1, .int 1])).all (fun _ => false) = false := by
    cases n with
    | zero => omega
    | succ n => simp [List.replicate_succ]
  rw [e2] at e
  generalize List.replicate n (PV.tup [.int 1, .int 1]) = l at *
  rw [F_run (n := 0) rfl rfl rfl]
  simp [e]
theorem bound_non (k : Nat) (M : Store) : F (k + 9) 11 [.non] M = .ok (.bl false) M := by
  have e := tupof_non (k + 7) 10 M
  rw [F_run (n := 0) rfl rfl rfl]
  simp [e]
end My
set_option maxHeartbeats 4000000
namespace My
open PySem DI
/-! ### a log and its columns -/
def turnV (t : List Int × Nat) : PV := .tup [.tup (t.1.map .int), .int t.2]
def logV (log : List (List Int × Nat)) : PV := .tup (log.map turnV)
def col (log : List (List Int × Nat)) (a : Nat) : List Int := log.map fun t => t.1.getD a 0
theorem idx_get {M : Store} {xs : List PV} {a : Nat} {x : PV} (h : xs[a]? = some x) : idxP M (.tup xs) (.int (a : Int)) = some x := by
  have hlt : a < xs.length := (List.getElem?_eq_some_iff.mp h).1
  have e : L2.ixN xs.length (a : Int) = some a := by
    unfold L2.ixN
    rw [if_pos (by omega), if_pos (by omega), Int.toNat_natCast]
  simp only [idxP, L2.atI, e]
  exact h
theorem idx_getL {M : Store} {xs : List PV} {a : Nat} {x : PV} (h : xs[a]? = some x) : idxP M (.lst xs) (.int (a : Int)) = some x := by
  have hlt : a < xs.length := (List.getElem?_eq_some_iff.mp h).1
  have e : L2.ixN xs.length (a : Int) = some a := by
    unfold L2.ixN
    rw [if_pos (by omega), if_pos (by omega), Int.toNat_natCast]
  simp only [idxP, L2.atI, e]
  exact h
theorem getD_int {cs : List Int} {a : Nat} (h : a < cs.length) : (cs.map PV.int)[a]? = some (.int (cs.getD a 0)) := by
  rw [List.getElem?_map, List.getElem?_eq_getElem h, List.getD_eq_getElem?_getD, List.getElem?_eq_getElem h]
  rfl
/-- `[comes[at] for comes, number in log]` -/
theorem comp_col {Γ : Fns} {sp : Sl} {c1 c2 i : Nat} (log : List (List Int × Nat)) (a : Nat) (ha : ∀ t ∈ log, a < t.1.length) (h1 : c1 < sp.length) (h2 : c2 < sp.length) (hat : sp[i]? = some (some (.int (a : Int)))) (d1 : i ≠ c1) (d2 : i ≠ c2) (d3 : c1 ≠ c2) (M : Store) :
    compR [] (stepC (.tup [.name c1, .name c2]) [c1, c2] (evC T Γ none) (ev T Γ (.idx (.var c1) (.var i))) sp) (log.map turnV) M = .ok ((col log a).map .int) M := by
  unfold col
  rw [List.map_map]
  refine compR_mapA turnV _ fun t ht => ?_
  have e := idx_get (M := M) (getD_int (ha t ht))
  have g1 : (((((wipeP sp [c1, c2]).set c1 (some (.tup (t.1.map .int)))).set c2 (some (.int (t.2 : Int)))))[c1]?) = some (some (.tup (t.1.map .int))) := by
    rw [List.getElem?_set_ne (Ne.symm d3), List.getElem?_set_self (by simp [wipeP]; omega)]
  have g2 : (((((wipeP sp [c1, c2]).set c1 (some (.tup (t.1.map .int)))).set c2 (some (.int (t.2 : Int)))))[i]?) = some (some (.int (a : Int))) := by
    rw [List.getElem?_set_ne (Ne.symm d2), List.getElem?_set_ne (Ne.symm d1)]
    simp only [wipeP]
    rw [List.getElem?_set_ne (Ne.symm d1), List.getElem?_set_ne (Ne.symm d2), hat]
  have l1 : (wipeP sp [c1, c2]).length = sp.length := by simp [wipeP]
  simp only [stepC, asg, asgs, turnV, l1, h1, h2, if_true, List.length_set, evC_none]
  rw [ev_idx, ev_var, g1, varK_some, bind_ok, ev_var, g2, varK_some, bind_ok, e, ofO_some, bind_ok]
  rfl
/-! ### check_rates -/
theorem tupof_fr (k : Nat) (rs : List Rat) (M : Store) : F (k + 4) 3 [.tup (rs.map fr), .fn 5] M = .ok (.bl true) M := by
  have e := tupof (k + 3) 5 (rs.map fr) (fun _ => true) M (fun x hx => by
    obtain ⟨q, hq, rfl⟩ := List.mem_map.mp hx
    exact frac_fr k q M)
  rw [show (rs.map fr).all (fun _ => true) = true by rw [List.all_eq_true]; exact fun _ _ => rfl] at e
  exact e
theorem check_fr (k : Nat) (st : List PV) (rs : List Rat) (hd : ∀ r ∈ rs, r.den < 2 ^ 64) (M : Store) :
    F (k + 5) 24 [.tup st, .tup (rs.map fr)] M = if rs.length = st.length ∧ ∀ r ∈ rs, 0 ≤ r then .ok .non M else .exc ⟨0, []⟩ M := by
  have e1 := tupof_fr k rs M
  have e2 : compR [] (stepC (.name 2) [2] (evC T (F (k + 4)) none) (ev T (F (k + 4)) (.call 18 (.cons (.var 2) (.cons (.glob 1) .nil)))) [some (.tup st), some (.tup (rs.map fr)), none]) (rs.map fr) M = .ok (rs.map fun r => .bl (decide (r < 0))) M :=
    compR_mapA _ _ fun r hr => by
      have e := f_is_less (k + 3) r 0 (hd r hr) (by decide) M
      have c1 := cst1
      generalize fr r = y1 at *
      generalize fr 0 = y0 at *
      simp [stepC, asg, wipeP, e, c1]
  have e3 : (rs.map fun r => decide (r < 0)).any id = !decide (∀ r ∈ rs, 0 ≤ r) := by
    rw [Bool.eq_iff_iff]
    simp [Rat.not_le]
  have e4 : ∀ n, blsOf (rs.map fun r => PV.bl (decide (r < 0))) = n → n = some (rs.map fun r => decide (r < 0)) := fun n h => h.symm.trans (blsOf_map _ rs)
  have e5 := blsOf_map (fun r : Rat => decide (r < 0)) rs
  have e6 : lenP M (.tup (rs.map fr)) = some (.int rs.length) := by simp [lenP]
  have e7 : lenP M (.tup st) = some (.int st.length) := by simp [lenP]
  have e8 : neP M (.int (rs.length : Int)) (.int (st.length : Int)) = some (.bl (!decide (rs.length = st.length))) := by
    rw [neP_int]
    congr 3
    exact decide_eq_decide.mpr (by omega)
  have e9 : seqIt M (.tup (rs.map fr)) = some ⟨rs.map fr, []⟩ := rfl
  generalize rs.map fr = xs at *
  generalize (rs.map fun r => PV.bl (decide (r < 0))) = ys at *
  rw [F_run (n := 1) rfl rfl rfl]
  by_cases h1 : rs.length = st.length
  · by_cases h2 : ∀ r ∈ rs, 0 ≤ r
    · rw [if_pos ⟨h1, h2⟩]
      rw [decide_eq_true h2] at e3
      rw [decide_eq_true h1] at e8
      simp [biP, lenF, e1, e6, e7, cmpP, e8, e9, e2, anyF, itemsL, e5, e3]
    · rw [if_neg fun h => h2 h.2]
      rw [decide_eq_false h2] at e3
      rw [decide_eq_true h1] at e8
      simp [biP, lenF, e1, e6, e7, cmpP, e8, e9, e2, anyF, itemsL, e5, e3]
  · rw [if_neg fun h => h1 h.1]
    rw [decide_eq_false h1] at e8
    simp [biP, lenF, e1, e6, e7, cmpP, e8]
theorem check_no (k : Nat) (st : List PV) (x : PV) (M : Store) (h : F (k + 4) 3 [x, .fn 5] M = .ok (.bl false) M) : F (k + 5) 24 [.tup st, x] M = .exc ⟨0, []⟩ M := by
  rw [F_run (n := 1) rfl rfl rfl]
  simp [h]
end My
set_option maxHeartbeats 4000000
namespace My
open PySem DI
/-! ### least_bound -/
def burst (r : Rat) (cs : List Int) : Rat := if r = 0 ∧ ¬ (∃ c ∈ cs, 0 < c) then 0 else rmax 1 (kad r 0 0 cs)
def lbound (log : List (List Int × Nat)) (rs : List Rat) : List (Rat × Rat) := rs.zipIdx.map fun p => (p.1, burst p.1 (col log p.2))
theorem enumL_fr (rs : List Rat) : enumL (rs.map fr) = rs.zipIdx.map fun p => .tup [.int (p.2 : Int), fr p.1] := by
  unfold enumL
  rw [List.zipIdx_map, List.map_map]
  rfl
theorem bmR_app {M : Store} {xs : List PV} {p : PV} (h : xs.length < 1000) : bmR .append (M ++ [some (.lst xs)]) (.ref M.length) [p] = .ok .non (M ++ [some (.lst (xs ++ [p]))]) := by
  have hz : 1000 ≤ sizeLine := by decide
  unfold bmR bmP
  simp only [lstAt_last]
  rw [if_pos (by omega)]
  simp
theorem tyM_app {M : Store} {xs : List PV} : tyM (M ++ [some (.lst xs)]) (.ref M.length) = true := by
  unfold tyM
  simp
theorem okRef_fr (n : Nat) (q : Rat) : okRef n (fr q) = true := by simp [fr, okRef, okRefs]
theorem okRefs_map {α : Type} (n : Nat) (f : α → PV) (h : ∀ x, okRef n (f x) = true) : ∀ l : List α, okRefs n (l.map f) = true
  | [] => rfl
  | x :: l => by simp [okRefs, h x, okRefs_map n f h l]
def lbE (log : List (List Int × Nat)) (p : Rat × Nat) : PV := .tup [fr p.1, fr (burst p.1 (col log p.2))]
theorem least_exc (k : Nat) (st : List PV) (x L : PV) (M : Store) (h : F (k + 5) 24 [.tup st, x] M = .exc ⟨0, []⟩ M) : F (k + 6) 25 [.tup st, L, x] M = .exc ⟨0, []⟩ M := by
  rw [F_run (n := 5) rfl rfl rfl]
  simp [h]
theorem least_fr (k : Nat) (st : List PV) (log : List (List Int × Nat)) (rs : List Rat) (hl : rs.length = st.length) (hs : st.length < 1000) (hc : ∀ t ∈ log, t.1.length = st.length) (h0 : ∀ r ∈ rs, 0 ≤ r) (hd : ∀ r ∈ rs, r.den < 2 ^ 64) (M : Store) (hM : okS M) :
    F (k + 8) 25 [.tup st, logV log, .tup (rs.map fr)] M = .ok (bdV (lbound log rs)) M := by
  have e1 := check_fr (k + 2) st rs hd M
  rw [if_pos ⟨hl, h0⟩] at e1
  have hen : seqIt (M ++ [some (.lst [])]) (.tup (rs.map fr)) = some ⟨rs.map fr, []⟩ := rfl
  have hres : bdV (lbound log rs) = .tup (rs.zipIdx.map (lbE log)) := by
    unfold bdV lbound
    rw [List.map_map]
    rfl
  have hrf : okRefs M.length (rs.zipIdx.map (lbE log)) = true := okRefs_map _ _ (fun p => by simp [lbE, okRef, okRefs, okRef_fr]) _
  rw [F_run (n := 5) rfl rfl rfl]
  obtain ⟨sp', M', e, hI⟩ := forR_inv (b := asg (.tup [.name 4, .name 5])) (body := exs T (F (k + 7)) (.cons (.expr (.meth .append (.var 3) (.cons (.tup (.cons (.var 5) (.cons (.call 23 (.cons (.comp [("comes", 6), ("number", 7)] (.tup [(.name 6), (.name 7)]) (.seq (.var 1)) none (.idx (.var 6) (.var 4))) (.cons (.var 5) .nil))) .nil))) .nil))) .nil))
    (fun p : Rat × Nat => PV.tup [.int (p.2 : Int), fr p.1]) (items := rs.zipIdx) (i := 0)
    (sp := [some (.tup st), some (logV log), some (.tup (rs.map fr)), some (.ref M.length), none, none, none, none]) (M := M ++ [some (.lst [])])
    (fun i sp M' => M' = M ++ [some (.lst ((rs.zipIdx.take i).map (lbE log)))] ∧ ∃ p4 p5 p6 p7, sp = [some (.tup st), some (logV log), some (.tup (rs.map fr)), some (.ref M.length), p4, p5, p6, p7])
    ⟨by simp, none, none, none, none, rfl⟩
    (fun j p sp M' hp hI => by
      obtain ⟨rfl, p4, p5, p6, p7, rfl⟩ := hI
      rw [Nat.zero_add]
      have hlt : j < rs.length := by
        have := (List.getElem?_eq_some_iff.mp hp).1
        simpa using this
      have hpj : p = (rs[j], j) := by
        rw [List.getElem?_eq_getElem (by simpa using hlt)] at hp
        have := Option.some.inj hp
        simpa using this.symm
      have hm : p.1 ∈ rs := by rw [hpj]; exact List.getElem_mem hlt
      have hp2 : p.2 = j := by rw [hpj]
      refine ⟨[some (.tup st), some (logV log), some (.tup (rs.map fr)), some (.ref M.length), some (.int (p.2 : Int)), some (fr p.1), p6, p7], by simp [asg, asgs], [some (.tup st), some (logV log), some (.tup (rs.map fr)), some (.ref M.length), some (.int (p.2 : Int)), some (fr p.1), p6, p7], M ++ [some (.lst ((rs.zipIdx.take (j + 1)).map (lbE log)))], .inl ?_, rfl, _, _, _, _, rfl⟩
      have hxs : (rs.zipIdx.take (j + 1)).map (lbE log) = (rs.zipIdx.take j).map (lbE log) ++ [lbE log p] := by
        rw [List.take_succ, hp]
        simp
      have hxl : ((rs.zipIdx.take j).map (lbE log)).length < 1000 := by simp; omega
      rw [hxs]
      generalize (rs.zipIdx.take j).map (lbE log) = xs at *
      have eb := f_least_burst k p.1 (col log p.2) (hd _ hm) (M ++ [some (.lst xs)])
      have hlp : lbE log p = .tup [fr p.1, fr (if p.1 = 0 ∧ ¬ (∃ c ∈ col log p.2, 0 < c) then 0 else rmax 1 (kad p.1 0 0 (col log p.2)))] := rfl
      rw [hlp]
      have hcol := comp_col (Γ := F (k + 7)) (sp := [some (.tup st), some (logV log), some (.tup (rs.map fr)), some (.ref M.length), some (.int (p.2 : Int)), some (fr p.1), p6, p7]) (c1 := 6) (c2 := 7) (i := 4) log p.2 (fun t ht => by rw [hc t ht, hp2]; omega) (by simp) (by simp) rfl (by omega) (by omega) (by omega) (M ++ [some (.lst xs)])
      have hsq : seqIt (M ++ [some (.lst xs)]) (logV log) = some ⟨log.map turnV, []⟩ := rfl
      have ha := fun q : PV => bmR_app (M := M) (xs := xs) (p := q) hxl
      have ht := tyM_app (M := M) (xs := xs)
      generalize fr (if p.1 = 0 ∧ ¬ (∃ c ∈ col log p.2, 0 < c) then 0 else rmax 1 (kad p.1 0 0 (col log p.2))) = y2 at *
      generalize fr p.1 = y1 at *
      generalize (M ++ [some (.lst xs)]) = MM at *
      simp [hcol, hsq, eb, ha, ht, sz2])
  obtain ⟨rfl, p4, p5, p6, p7, rfl⟩ := hI
  have htk : rs.zipIdx.take (0 + rs.zipIdx.length) = rs.zipIdx := by rw [Nat.zero_add, List.take_length]
  rw [htk] at e
  rw [← enumL_fr] at e
  rw [hres]
  have hgc := gcM_app (L := [some (.lst (rs.zipIdx.map (lbE log)))]) (ps := [.tup (rs.zipIdx.map (lbE log))]) hM (by simp [okRefs, okRef, hrf])
  have hz0 : (0 : Nat) ≤ sizeLine := by decide
  have hit : ∀ xs, itemsL (M ++ [some (.lst xs)]) (.ref M.length) = some xs := fun xs => by simp [itemsL]
  have hlog : ∃ y, y = logV log := ⟨_, rfl⟩
  generalize rs.zipIdx.map (lbE log) = res at *
  generalize logV log = lg at *
  generalize rs.map fr = xs at *
  simp [e1, hen, e, biP, tupleF, hit, hgc]
end My
set_option maxHeartbeats 4000000
namespace My
open PySem DI
/-! ### mean_rates -/
theorem cln_log (log : List (List Int × Nat)) : cln 60 (logV log) = true := by
  refine cln_tup fun x hx => ?_
  obtain ⟨t, _, rfl⟩ := List.mem_map.mp hx
  refine cln_tup fun y hy => ?_
  simp only [List.mem_cons, List.not_mem_nil, or_false] at hy
  rcases hy with rfl | rfl
  · refine cln_tup fun z hz => ?_
    obtain ⟨i, _, rfl⟩ := List.mem_map.mp hz
    simp [cln]
  · simp [cln]
theorem cln_nil : cln 60 (.tup []) = true := rfl
theorem logV_nil {log : List (List Int × Nat)} : logV log = .tup [] ↔ log = [] := by
  unfold logV
  cases log <;> simp
theorem log_eq (log : List (List Int × Nat)) (M : Store) : eqP M (logV log) (.tup []) = some (.bl (decide (log = []))) := by
  by_cases h : log = []
  · subst h
    exact eqP_same cln_nil
  · rw [decide_eq_false h]
    exact eqP_diff (cln_log log) cln_nil fun e => h (logV_nil.mp e)
theorem log_ne (log : List (List Int × Nat)) (M : Store) : neP M (logV log) (.tup []) = some (.bl (!decide (log = []))) := by
  by_cases h : log = []
  · subst h
    exact neP_same cln_nil
  · rw [decide_eq_false h]
    exact neP_diff (cln_log log) cln_nil fun e => h (logV_nil.mp e)
def mean (log : List (List Int × Nat)) (a : Nat) : Rat := if log = [] then 0 else Rat.divInt (col log a).sum log.length
def means (log : List (List Int × Nat)) (m : Nat) : List Rat := (List.range m).map (mean log)
theorem len_log {M : Store} (log : List (List Int × Nat)) : biP .len M [logV log] = some (.int (log.length : Int)) := by simp [biP, lenF, lenP, logV]
theorem seq_log {M : Store} (log : List (List Int × Nat)) : seqIt M (logV log) = some ⟨log.map turnV, []⟩ := rfl
theorem log2_len {n : Nat} (h : n ≤ 1000) : ((n : Int)).natAbs.log2 < 9000 := log2_lt (by
  rw [Int.natAbs_natCast]
  exact Nat.lt_of_le_of_lt h (by decide))
theorem f_mean0 (k : Nat) (st : List PV) (log : List (List Int × Nat)) (h : log = []) (M : Store) :
    F (k + 3) 21 [.tup st, logV log] M = .ok (.tup ((means log st.length).map fr)) M := by
  have e1 := log_eq log M
  have e2 := compR_map (step := stepC (.name 3) [3] (evC T (F (k + 2)) none) (ev T (F (k + 2)) (.glob 1)) [some (.tup st), some (logV log), none, none, none, none]) (M := M) (fun _ => fr 0) (items := st) (fun x hx => by
    have c1 := cst1
    generalize fr 0 = z at *
    simp [stepC, asg, wipeP, c1])
  have e3 : (means log st.length).map fr = st.map fun _ => fr 0 := by
    unfold means mean
    simp only [if_pos h, List.map_map]
    refine List.ext_getElem (by simp) fun i h1 h2 => by simp
  rw [decide_eq_true h] at e1
  rw [e3]
  generalize (st.map fun _ => fr 0) = r at *
  generalize logV log = lg at *
  rw [F_run (n := 4) rfl rfl rfl]
  simp [e1, e2]
theorem mean_step (k : Nat) (st : List PV) (log : List (List Int × Nat)) (hl : log.length ≤ 1000) (hc : ∀ t ∈ log, t.1.length = st.length) (M : Store) (h : log ≠ []) (a : Nat) (ha : a < st.length) :
    stepC (.name 2) [2] (evC T (F (k + 2)) none) (ev T (F (k + 2)) (.call 12 (.cons (.callB .sum (.cons (.comp [("comes", 4), ("number", 5)] (.tup [(.name 4), (.name 5)]) (.seq (.var 1)) none (.idx (.var 4) (.var 2))) .nil)) (.cons (.callB .len (.cons (.var 1) .nil)) .nil)))) [some (.tup st), some (logV log), none, none, none, none] (.int (a : Int)) M = .ok (some (fr (mean log a))) M := by
  have e4 := comp_col (Γ := F (k + 2)) (sp := [some (.tup st), some (logV log), some (.int (a : Int)), none, none, none]) (c1 := 4) (c2 := 5) (i := 2) log a (fun t ht => by rw [hc t ht]; exact ha) (by simp) (by simp) rfl (by omega) (by omega) (by omega) M
  have e5 := sum_of (M := M) (col log a)
  have e6 := len_log (M := M) log
  have hp : 0 < log.length := List.length_pos_iff.mpr h
  have e7 := f_made k (col log a).sum log.length (by omega) (log2_len hl) M
  have e8 : mean log a = Rat.divInt (col log a).sum log.length := if_neg h
  have e9 := seq_log (M := M) log
  rw [e8]
  generalize fr (Rat.divInt (col log a).sum log.length) = r at *
  generalize logV log = lg at *
  generalize log.map turnV = ts at *
  generalize (log.length : Int) = n at *
  generalize (col log a).sum = s at *
  generalize (col log a).map PV.int = cs at *
  simp [stepC, asg, wipeP, e9, e4, e5, e6, e7]
theorem f_mean (k : Nat) (st : List PV) (log : List (List Int × Nat)) (hs : st.length < 1000) (hl : log.length ≤ 1000) (hc : ∀ t ∈ log, t.1.length = st.length) (M : Store) :
    F (k + 3) 21 [.tup st, logV log] M = .ok (.tup ((means log st.length).map fr)) M := by
  by_cases h : log = []
  · exact f_mean0 k st log h M
  · have e1 := log_eq log M
    have e2 := compR_mapA (step := stepC (.name 2) [2] (evC T (F (k + 2)) none) (ev T (F (k + 2)) (.call 12 (.cons (.callB .sum (.cons (.comp [("comes", 4), ("number", 5)] (.tup [(.name 4), (.name 5)]) (.seq (.var 1)) none (.idx (.var 4) (.var 2))) .nil)) (.cons (.callB .len (.cons (.var 1) .nil)) .nil)))) [some (.tup st), some (logV log), none, none, none, none]) (M := M) (fun j : Nat => PV.int (j : Int)) (fun j => fr (mean log j)) (items := List.range st.length) (fun a ha =>
      mean_step k st log hl hc M h a (by simpa using ha))
    have e3 : (means log st.length).map fr = (List.range st.length).map fun j => fr (mean log j) := by
      unfold means
      rw [List.map_map]
      rfl
    have hr := rngIt_0 (n := st.length) (by omega)
    have hrl := rng0_map st.length
    have e6 : biP .len M [.tup st] = some (.int (st.length : Int)) := by simp [biP, lenF, lenP]
    rw [decide_eq_false h] at e1
    rw [e3]
    rw [← hrl] at e2
    generalize ((List.range st.length).map fun j => fr (mean log j)) = r at *
    generalize logV log = lg at *
    generalize rngL 0 1 st.length = rl at *
    generalize (st.length : Int) = n at *
    rw [F_run (n := 4) rfl rfl rfl]
    have s1 : evI T (F (k + 2)) (.rng1 (.callB .len (.cons (.var 0) .nil))) [some (.tup st), some lg, none, none, none, none] M = .ok ⟨rl, []⟩ M := by
      rw [evI_rng1, ev_callB, evs_cons, ev_var]
      show ((((varK (some (some (PV.tup st))) M).bind fun p M1 => (evs T (F (k + 2)) .nil _ M1).bind fun ps M2 => .ok (p :: ps) M2).bind fun ps M1 => Res.ofO (biP .len M1 ps) M1).bind rng1K) = _
      rw [varK_some, bind_ok, evs_nil, bind_ok, bind_ok, e6, ofO_some, bind_ok, rng1K_int, hr, ofO_some]
    have s2 : ev T (F (k + 2)) (.cmp .Eq (.var 1) (.tup .nil)) [some (.tup st), some lg, none, none, none, none] M = .ok (.bl false) M := by
      simp [e1]
    have s3 : ev T (F (k + 2)) (.callB .tuple (.cons (.comp [("at", 2)] (.name 2) (.rng1 (.callB .len (.cons (.var 0) .nil))) none (.call 12 (.cons (.callB .sum (.cons (.comp [("comes", 4), ("number", 5)] (.tup [(.name 4), (.name 5)]) (.seq (.var 1)) none (.idx (.var 4) (.var 2))) .nil)) (.cons (.callB .len (.cons (.var 1) .nil)) .nil)))) .nil)) [some (.tup st), some lg, none, none, none, none] M = .ok (.tup r) M := by
      simp [s1, e2]
    show runK M.length (exs T (F (k + 2)) _ [some (.tup st), some lg, none, none, none, none] M) = _
    rw [exs_cons, ex_ite, s2, evTr_bl, ofR_ok, if_neg (by simp), exs_nil, seq_nx, exs_cons, ex_ret, s3, ofR_ok, seq_ret, runK_ret, gcM_self]
end My
set_option maxHeartbeats 4000000
namespace My
open PySem DI
/-! ### the first window that passes a bound, of one stream -/
theorem smI_of {i : Int} (h1 : -100000 < i) (h2 : i < 100000) : smI i = true := by
  simp only [smI, Bool.and_eq_true, decide_eq_true_eq]
  omega
theorem Over.mulInt {d : Nat} {p : Rat} (h : Over d p) (n : Int) : Over d (p * (n : Rat)) := by
  obtain ⟨m, h⟩ := h
  exact ⟨m * n, by rw [Rat.mul_assoc, Rat.mul_comm (n : Rat), ← Rat.mul_assoc, h, Rat.intCast_mul]⟩
theorem add_den {p q : Rat} (hp : p.den < 2 ^ 32) (hq : q.den < 2 ^ 32) : (p + q).den < 2 ^ 64 := by
  have h : (p + q).den ∣ p.den * q.den := by
    rw [add_div, Rat.den_divInt, if_neg (by have := den_pos2 p q; omega), Int.natAbs_natCast]
    refine Nat.div_dvd_of_dvd ?_
    have h := Int.gcd_dvd_natAbs_left ((p.den * q.den : Nat) : Int) (p.num * q.den + q.num * p.den)
    rw [Int.natAbs_natCast] at h
    exact h
  have h2 := Nat.le_of_dvd (Nat.mul_pos p.den_pos q.den_pos) h
  have h3 : p.den * q.den < 2 ^ 32 * 2 ^ 32 := Nat.mul_lt_mul'' hp hq
  have h4 : (2 ^ 32 * 2 ^ 32 : Nat) = 2 ^ 64 := by decide
  omega
theorem f_passed (k : Nat) (rate b : Rat) (cs : List Int) (i j : Nat) (hi : i ≤ j) (hj : j < cs.length) (hl : cs.length < 1000) (hd : rate.den < 2 ^ 32) (hb : b.den < 2 ^ 32) (M : Store) :
    F (k + 4) 26 [.lst (cs.map .int), .int (i : Int), .int (j : Int), fr rate, fr b] M = .ok (.bl (decide (b < W rate cs i j))) M := by
  have hs := slc_win (M := M) cs i j hj hi
  have hlen : ((cs.drop i).take (j + 1 - i)).length = j + 1 - i := by simp; omega
  have hsum := biSum (M := M) ((cs.drop i).take (j + 1 - i))
  have e1 := f_whole (k + 2) ((j : Int) + 1 - i) M
  have d32 : (2 ^ 32 : Nat) < 2 ^ 64 := by decide
  have hrd := rate.den_pos
  have e2 := f_times k (((j : Int) + 1 - i : Int) : Rat) rate (by show 1 < 2 ^ 64; decide) (by omega) (smI_of (by show -100000 < (j : Int) + 1 - i; omega) (by show (j : Int) + 1 - i < 100000; omega)) M
  have ho : (((((j : Int) + 1 - i : Int) : Rat) * rate)).den < 2 ^ 32 := by
    rw [Rat.mul_comm]
    exact Nat.lt_of_le_of_lt (((Over.self rate).mulInt _).den hrd) hd
  have e3 := f_added k b ((((j : Int) + 1 - i : Int) : Rat) * rate) (by omega) (by omega) M
  have e4 := f_whole (k + 2) ((cs.drop i).take (j + 1 - i)).sum M
  have e5 := f_is_less (k + 2) (b + (((j : Int) + 1 - i : Int) : Rat) * rate) ((((cs.drop i).take (j + 1 - i)).sum : Int) : Rat) (add_den hb ho) (by show 1 < 2 ^ 64; decide) M
  have hw : decide (b < W rate cs i j) = decide (b + (((j : Int) + 1 - i : Int) : Rat) * rate < ((((cs.drop i).take (j + 1 - i)).sum : Int) : Rat)) := by
    refine decide_eq_decide.mpr ?_
    unfold W val
    rw [hlen, show ((j + 1 - i : Nat) : Int) = (j : Int) + 1 - i by omega, Rat.mul_comm rate]
    constructor <;> intro h <;> grind
  rw [hw]
  generalize decide (b + (((j : Int) + 1 - i : Int) : Rat) * rate < ((((cs.drop i).take (j + 1 - i)).sum : Int) : Rat)) = r at *
  generalize fr (b + (((j : Int) + 1 - i : Int) : Rat) * rate) = y3 at *
  generalize fr ((((j : Int) + 1 - i : Int) : Rat) * rate) = y2 at *
  generalize fr (((j : Int) + 1 - i : Int) : Rat) = y1 at *
  generalize ((cs.drop i).take (j + 1 - i)) = w at *
  generalize fr ((w.sum : Int) : Rat) = y4 at *
  generalize fr rate = y5 at *
  generalize fr b = y6 at *
  generalize w.map PV.int = wm at *
  generalize cs.map PV.int = cm at *
  rw [F_run (n := 1) rfl rfl rfl]
  simp [hs, hsum, e1, e2, e3, e4, e5]
theorem val_app (rate : Rat) (l m : List Int) : val rate (l ++ m) = val rate l + val rate m := by
  induction l with
  | nil => rw [List.nil_append, val_nil]; grind
  | cons c l ih => rw [List.cons_append, val_cons, val_cons, ih]; grind
theorem W_self (rate : Rat) (cs : List Int) (i : Nat) (h : i < cs.length) : W rate cs i i = ((cs[i] : Int) : Rat) - rate := by
  unfold W
  have e : (cs.drop i).take (i + 1 - i) = [cs[i]] := by
    rw [show i + 1 - i = 0 + 1 by omega, List.drop_eq_getElem_cons h]
    rfl
  rw [e, val_cons, val_nil]
  grind
theorem W_step (rate : Rat) (cs : List Int) (a i : Nat) (ha : a ≤ i) (h : i + 1 < cs.length) : W rate cs a (i + 1) = W rate cs a i + (((cs[i + 1] : Int) : Rat) - rate) := by
  unfold W
  have e : (cs.drop a).take (i + 1 + 1 - a) = (cs.drop a).take (i + 1 - a) ++ [cs[i + 1]] := by
    rw [show i + 1 + 1 - a = (i + 1 - a) + 1 by omega, List.take_add_one, List.getElem?_drop, show a + (i + 1 - a) = i + 1 by omega, List.getElem?_eq_getElem h]
    rfl
  rw [e, val_app, val_cons, val_nil]
  grind
/-- here, ahead of the i-th -/
structure Here (rate : Rat) (cs : List Int) (i : Nat) (x : Rat) : Prop where
  ov : Over rate.den x
  z : i = 0 → x = 0
  mem : 0 < i → ∃ a, a < i ∧ x = W rate cs a (i - 1)
  win : ∀ a, a < i → W rate cs a (i - 1) ≤ x
theorem Here.next {rate : Rat} {cs : List Int} {i : Nat} {x : Rat} (h : Here rate cs i x) (hi : i < cs.length) : Here rate cs (i + 1) (rmax 0 x + (((cs[i] : Int) : Rat) - rate)) where
  ov := ((Over.int 0).max h.ov).add ((Over.int _).sub (Over.self rate))
  z := fun e => by omega
  mem := fun _ => by
    cases i with
    | zero =>
      refine ⟨0, by omega, ?_⟩
      rw [h.z rfl, W_self rate cs 0 hi]
      have : rmax 0 0 = 0 := by unfold rmax; split <;> rfl
      rw [this]
      grind
    | succ i =>
      rcases rmax_or 0 x with e | e
      · refine ⟨i + 1, by omega, ?_⟩
        rw [e]
        show _ = W rate cs (i + 1) (i + 1)
        rw [W_self rate cs (i + 1) hi]
        grind
      · obtain ⟨a, ha, e2⟩ := h.mem (by omega)
        refine ⟨a, by omega, ?_⟩
        show _ = W rate cs a (i + 1)
        have e3 : i + 1 - 1 = i := rfl
        rw [e, W_step rate cs a i (by omega) hi, e2, e3]
  win := fun a ha => by
    cases i with
    | zero =>
      have : a = 0 := by omega
      subst this
      show W rate cs 0 0 ≤ _
      rw [W_self rate cs 0 hi]
      have := rmax_l 0 x
      grind
    | succ i =>
      show W rate cs a (i + 1) ≤ _
      by_cases e : a = i + 1
      · subst e
        rw [W_self rate cs (i + 1) hi]
        have := rmax_l 0 x
        grind
      · rw [W_step rate cs a i (by omega) hi]
        have h1 := h.win a (by omega)
        have h2 := rmax_r 0 x
        have e3 : i + 1 - 1 = i := rfl
        rw [e3] at h1
        grind
def Bad (rate b : Rat) (cs : List Int) (l f : Nat) : Prop := f ≤ l ∧ l < cs.length ∧ b < W rate cs f l
theorem Here.bad {rate b : Rat} {cs : List Int} {i : Nat} {x : Rat} (h : Here rate cs (i + 1) x) (hi : i < cs.length) : b < x ↔ ∃ f, Bad rate b cs i f := by
  constructor
  · intro hb
    obtain ⟨a, ha, e⟩ := h.mem (by omega)
    exact ⟨a, by omega, hi, by rw [e] at hb; exact hb⟩
  · rintro ⟨f, h1, _, h3⟩
    have h4 : W rate cs f i ≤ x := h.win f (by omega)
    grind
end My
set_option maxHeartbeats 4000000
namespace My
open PySem DI
def opV2 : Option (Nat × Nat) → PV
  | none => .non
  | some (l, f) => .tup [.int (l : Int), .int (f : Int)]
def Least2 (P : Nat → Nat → Prop) : Option (Nat × Nat) → Prop
  | none => ∀ l f, ¬ P l f
  | some (l, f) => P l f ∧ ∀ l' f', P l' f' → l < l' ∨ (l = l' ∧ f ≤ f')
def fosHere : CE := (.call 14 (.cons (.call 19 (.cons (.lst (.cons (.glob 1) (.cons (.var 3) .nil))) .nil)) (.cons (.call 16 (.cons (.call 13 (.cons (.var 5) .nil)) (.cons (.var 1) .nil))) .nil)))
def fosIf : CSs := (.cons (.asgC 6 [("first", 7)] (.name 7) (.rng1 (.bin .Add (.var 4) (.int 1))) (some (.call 26 (.cons (.var 0) (.cons (.var 7) (.cons (.var 4) (.cons (.var 1) (.cons (.var 2) .nil))))))) (.var 7)) (.cons (.ret (.tup (.cons (.var 4) (.cons (.idx (.var 6) (.int 0)) .nil)))) .nil))
def fosBody : CSs := (.cons (.asg (.name 3) fosHere) (.cons (.ite (.call 18 (.cons (.var 2) (.cons (.var 3) .nil))) fosIf .nil) .nil))
def sl8 (cs : List Int) (rate b x : Rat) (p4 p5 p6 p7 : Option PV) : Sl := [some (.lst (cs.map .int)), some (fr rate), some (fr b), some (fr x), p4, p5, p6, p7]
theorem e_here (k : Nat) (rate b x : Rat) (cs : List Int) (i c : Int) (hd : rate.den < 2 ^ 32) (hx : Over rate.den x) (p6 p7 : Option PV) (M : Store) :
    ev T (F (k + 4)) fosHere (sl8 cs rate b x (some (.int i)) (some (.int c)) p6 p7) M = .ok (fr (rmax 0 x + ((c : Rat) - rate))) M := by
  have small : ∀ {p : Rat}, Over rate.den p → p.den < 2 ^ 64 := fun h => Nat.lt_of_le_of_lt (h.den rate.den_pos) (Nat.lt_trans hd (by decide))
  have e1 := f_max2 (k + 2) 0 x (small (Over.int 0)) (small hx) M
  have e2 := f_whole (k + 3) c M
  have e3 := f_less k (c : Rat) rate (small (Over.int _)) (small (Over.self _)) M
  have e4 := f_added (k + 1) (rmax 0 x) ((c : Rat) - rate) (small ((Over.int 0).max hx)) (small ((Over.int _).sub (Over.self _))) M
  have c1 := cst1
  unfold sl8
  generalize fr (rmax 0 x + ((c : Rat) - rate)) = y1 at *
  generalize fr (rmax 0 x) = y2 at *
  generalize fr ((c : Rat) - rate) = y3 at *
  generalize fr (c : Rat) = y4 at *
  generalize fr rate = y5 at *
  generalize fr x = y6 at *
  generalize fr b = y7 at *
  generalize fr 0 = y8 at *
  generalize cs.map PV.int = y9 at *
  simp [fosHere, e1, e2, e3, e4, c1, sz2]
theorem idx_zero {M : Store} {x : PV} {xs : List PV} : idxP M (.lst (x :: xs)) (.int 0) = some x := by
  exact idx_getL (a := 0) rfl
theorem head_filter (p : Nat → Bool) (n : Nat) (h : ∃ a, a < n ∧ p a = true) : ∃ f r, (List.range n).filter p = f :: r ∧ f < n ∧ p f = true ∧ ∀ a, a < n → p a = true → f ≤ a := by
  cases e : (List.range n).filter p with
  | nil =>
    obtain ⟨a, h1, h2⟩ := h
    have := List.filter_eq_nil_iff.mp e a (List.mem_range.mpr h1)
    exact absurd h2 this
  | cons f r =>
    have hf : f ∈ (List.range n).filter p := by rw [e]; exact List.mem_cons_self
    obtain ⟨h1, h2⟩ := List.mem_filter.mp hf
    refine ⟨f, r, rfl, List.mem_range.mp h1, h2, fun a ha hp => ?_⟩
    have hs : ((List.range n).filter p).Pairwise (· < ·) := List.Pairwise.filter _ List.pairwise_lt_range
    have hm : a ∈ (List.range n).filter p := List.mem_filter.mpr ⟨List.mem_range.mpr ha, hp⟩
    rw [e] at hs hm
    rcases List.mem_cons.mp hm with q | q
    · omega
    · have := (List.pairwise_cons.mp hs).1 a q
      omega
theorem e_if (k : Nat) (rate b x : Rat) (cs : List Int) (i : Nat) (hi : i < cs.length) (hl : cs.length < 999) (hd : rate.den < 2 ^ 32) (hb : b.den < 2 ^ 32) (p5 p6 p7 : Option PV) (M : Store) (h : ∃ f, Bad rate b cs i f) :
    ∃ f : Nat, exs T (F (k + 4)) fosIf (sl8 cs rate b x (some (.int (i : Int))) p5 p6 p7) M = .ret (.tup [.int (i : Int), .int (f : Int)]) M ∧ Bad rate b cs i f ∧ ∀ f', Bad rate b cs i f' → f ≤ f' := by
  obtain ⟨f, r, e1, h1, h2, h3⟩ := head_filter (fun a => decide (b < W rate cs a i)) (i + 1) (by
    obtain ⟨f, q1, q2, q3⟩ := h
    exact ⟨f, by omega, decide_eq_true q3⟩)
  refine ⟨f, ?_, ⟨by omega, hi, of_decide_eq_true h2⟩, fun f' hf => h3 f' (by have := hf.1; omega) (decide_eq_true hf.2.2)⟩
  have e2 := compR_filA (step := stepC (.name 7) [7] (evC T (F (k + 4)) (some (.call 26 (.cons (.var 0) (.cons (.var 7) (.cons (.var 4) (.cons (.var 1) (.cons (.var 2) .nil)))))))) (ev T (F (k + 4)) (.var 7)) (sl8 cs rate b x (some (.int (i : Int))) p5 p6 p7)) (M := M) (fun j : Nat => PV.int (j : Int)) (fun a => decide (b < W rate cs a i)) (fun j : Nat => PV.int (j : Int)) (items := List.range (i + 1)) (fun a ha => by
    have ha : a < i + 1 := List.mem_range.mp ha
    have e := f_passed k rate b cs a i (by omega) hi (by omega) hd hb M
    unfold sl8
    generalize decide (b < W rate cs a i) = t at *
    generalize fr rate = y1 at *
    generalize fr b = y2 at *
    generalize fr x = y3 at *
    generalize cs.map PV.int = y9 at *
    generalize (a : Int) = aa at *
    generalize (i : Int) = ii at *
    cases t <;> simp [stepC, asg, wipeP, e])
  have hr := rngIt0 (n := i + 1) (by omega)
  rw [show ((i + 1 : Nat) : Int) = (i : Int) + 1 by omega] at hr
  rw [e1, List.map_cons] at e2
  have e3 := fun M : Store => idx_zero (M := M) (x := PV.int (f : Int)) (xs := r.map fun j : Nat => PV.int (j : Int))
  have hslen : (sl8 cs rate b x (some (.int (i : Int))) p5 p6 p7).length = 8 := rfl
  have s1 : ev T (F (k + 4)) (.bin .Add (.var 4) (.int 1)) (sl8 cs rate b x (some (.int (i : Int))) p5 p6 p7) M = .ok (.int ((i : Int) + 1)) M := by
    unfold sl8
    simp
  have s2 : ∀ p6', ev T (F (k + 4)) (.var 4) (sl8 cs rate b x (some (.int (i : Int))) p5 p6' p7) M = .ok (.int (i : Int)) M := fun p6' => by
    unfold sl8
    simp
  have s3 : ∀ q, ev T (F (k + 4)) (.var 6) (sl8 cs rate b x (some (.int (i : Int))) p5 (some q) p7) M = .ok q M := fun q => by
    unfold sl8
    simp
  have s4 : ∀ q, (sl8 cs rate b x (some (.int (i : Int))) p5 p6 p7).set 6 (some q) = sl8 cs rate b x (some (.int (i : Int))) p5 (some q) p7 := fun q => rfl
  unfold fosIf
  rw [exs_cons, ex_asgC, ev_comp, evI_rng1, s1, bind_ok, rng1K_int, hr, ofO_some, bind_ok]
  show ((SRes.ofR ((compR [] (stepC (.name 7) [7] _ _ _) _ M).bind _) _ _).seq _) = _
  rw [e2, bind_ok, ofR_ok, asgK_name, hslen, if_pos (by omega), s4, seq_nx, exs_cons, ex_ret, ev_tup, evs_cons, s2, bind_ok, evs_cons, ev_idx, s3, bind_ok, ev_int, bind_ok, e3, ofO_some, bind_ok, evs_nil, bind_ok, bind_ok, bind_ok, if_pos (by exact sz2), ofR_ok, seq_ret]
end My
set_option maxHeartbeats 4000000
namespace My
open PySem DI
theorem e_fos (k : Nat) (rate b x : Rat) (cs : List Int) (j : Nat) (hj : j < cs.length) (hl : cs.length < 999) (hd : rate.den < 2 ^ 32) (hb : b.den < 2 ^ 32) (p6 p7 : Option PV) (M : Store) (hx : Here rate cs j x) :
    (exs T (F (k + 4)) fosBody (sl8 cs rate b x (some (.int (j : Int))) (some (.int cs[j])) p6 p7) M = .nx (sl8 cs rate b (rmax 0 x + (((cs[j] : Int) : Rat) - rate)) (some (.int (j : Int))) (some (.int cs[j])) p6 p7) M ∧ ∀ f, ¬ Bad rate b cs j f) ∨
    ∃ f : Nat, exs T (F (k + 4)) fosBody (sl8 cs rate b x (some (.int (j : Int))) (some (.int cs[j])) p6 p7) M = .ret (.tup [.int (j : Int), .int (f : Int)]) M ∧ Bad rate b cs j f ∧ ∀ f', Bad rate b cs j f' → f ≤ f' := by
  have small : ∀ {p : Rat}, Over rate.den p → p.den < 2 ^ 64 := fun h => Nat.lt_of_le_of_lt (h.den rate.den_pos) (Nat.lt_trans hd (by decide))
  have e1 := e_here k rate b x cs j cs[j] hd hx.ov p6 p7 M
  have hn := hx.next hj
  have hbad := hn.bad (b := b) hj
  have hif := fun h => e_if k rate b (rmax 0 x + (((cs[j] : Int) : Rat) - rate)) cs j hj hl hd hb (some (.int cs[j])) p6 p7 M h
  have e2 := f_is_less (k + 3) b (rmax 0 x + (((cs[j] : Int) : Rat) - rate)) (Nat.lt_trans hb (by decide)) (small hn.ov) M
  generalize rmax 0 x + (((cs[j] : Int) : Rat) - rate) = x' at *
  generalize cs[j] = c at *
  have hslen : (sl8 cs rate b x (some (.int (j : Int))) (some (.int c)) p6 p7).length = 8 := rfl
  have s4 : (sl8 cs rate b x (some (.int (j : Int))) (some (.int c)) p6 p7).set 3 (some (fr x')) = sl8 cs rate b x' (some (.int (j : Int))) (some (.int c)) p6 p7 := rfl
  have s5 : ev T (F (k + 4)) (.call 18 (.cons (.var 2) (.cons (.var 3) .nil))) (sl8 cs rate b x' (some (.int (j : Int))) (some (.int c)) p6 p7) M = .ok (.bl (decide (b < x'))) M := by
    unfold sl8
    generalize fr rate = y1 at *
    generalize fr b = y2 at *
    generalize fr x' = y3 at *
    generalize cs.map PV.int = y9 at *
    generalize decide (b < x') = t at *
    simp [e2]
  have s6 : exs T (F (k + 4)) fosBody (sl8 cs rate b x (some (.int (j : Int))) (some (.int c)) p6 p7) M = (if decide (b < x') = true then exs T (F (k + 4)) fosIf (sl8 cs rate b x' (some (.int (j : Int))) (some (.int c)) p6 p7) M else .nx (sl8 cs rate b x' (some (.int (j : Int))) (some (.int c)) p6 p7) M).seq (exs T (F (k + 4)) .nil) := by
    unfold fosBody
    rw [exs_cons, ex_asg, e1, ofR_ok, asgK_name, hslen, if_pos (by omega), s4, seq_nx, exs_cons, ex_ite, s5, evTr_bl, ofR_ok, exs_nil]
  rw [s6]
  by_cases h : b < x'
  · obtain ⟨f, q1, q2, q3⟩ := hif (hbad.mp h)
    rw [if_pos (decide_eq_true h), q1, seq_ret]
    exact .inr ⟨f, rfl, q2, q3⟩
  · rw [if_neg (by simpa using h), seq_nx, exs_nil]
    exact .inl ⟨rfl, fun f hf => h (hbad.mpr ⟨f, hf⟩)⟩
theorem f_first (k : Nat) (rate b : Rat) (cs : List Int) (hl : cs.length < 999) (hd : rate.den < 2 ^ 32) (hb : b.den < 2 ^ 32) (M : Store) :
    ∃ o, F (k + 5) 27 [.lst (cs.map .int), fr rate, fr b] M = .ok (opV2 o) M ∧ Least2 (Bad rate b cs) o := by
  have key := forR_ret (b := asg (.tup [.name 4, .name 5])) (body := exs T (F (k + 4)) fosBody) (fun p : Int × Nat => PV.tup [.int (p.2 : Int), .int p.1])
    (fun i sp M' => M' = M ∧ (∃ x p4 p5 p6 p7, sp = sl8 cs rate b x p4 p5 p6 p7 ∧ Here rate cs i x) ∧ ∀ l f, l < i → ¬ Bad rate b cs l f)
    (fun j p M' => M' = M ∧ ∃ f : Nat, p = .tup [.int (j : Int), .int (f : Int)] ∧ Bad rate b cs j f ∧ (∀ f', Bad rate b cs j f' → f ≤ f') ∧ ∀ l f, l < j → ¬ Bad rate b cs l f)
    (items := cs.zipIdx) (i := 0) (sp := sl8 cs rate b 0 none none none none) (M := M)
    ⟨rfl, ⟨0, none, none, none, none, rfl, ⟨Over.int 0, fun _ => rfl, fun h => by omega, fun a h => by omega⟩⟩, fun l f h => by omega⟩
    (fun j p sp M' hp hI => by
      obtain ⟨rfl, ⟨x, p4, p5, p6, p7, rfl, hx⟩, hno⟩ := hI
      have hlt : j < cs.length := by
        have := (List.getElem?_eq_some_iff.mp hp).1
        simpa using this
      have hpj : p = (cs[j], j) := by
        rw [List.getElem?_eq_getElem (by simpa using hlt)] at hp
        have := Option.some.inj hp
        simpa using this.symm
      subst hpj
      rw [Nat.zero_add] at hx hno ⊢
      refine ⟨sl8 cs rate b x (some (.int (j : Int))) (some (.int cs[j])) p6 p7, rfl, ?_⟩
      rcases e_fos k rate b x cs j hlt hl hd hb p6 p7 M' hx with ⟨e, h⟩ | ⟨f, e, h1, h2⟩
      · refine .inl ⟨_, _, .inl e, rfl, ⟨_, _, _, _, _, rfl, hx.next hlt⟩, fun l f hlf => ?_⟩
        by_cases q : l = j
        · subst q; exact h f
        · exact hno l f (by omega)
      · exact .inr ⟨_, _, e, rfl, f, rfl, h1, h2, hno⟩)
  have hen : enumL (cs.map PV.int) = cs.zipIdx.map fun p => .tup [.int (p.2 : Int), .int p.1] := enumLA PV.int cs
  have s0 : exs T (F (k + 4)) (.cons (.asg (.name 3) (.glob 1)) (.cons (.forS (.tup [.name 4, .name 5]) (.enum (.var 0)) fosBody) (.cons (.ret .non) .nil))) [some (.lst (cs.map .int)), some (fr rate), some (fr b), none, none, none, none, none] M = (forR [] (asg (.tup [.name 4, .name 5])) (exs T (F (k + 4)) fosBody) (cs.zipIdx.map fun p => .tup [.int (p.2 : Int), .int p.1]) (sl8 cs rate b 0 none none none none) M).seq (exs T (F (k + 4)) (.cons (.ret .non) .nil)) := by
    have s1 : ex T (F (k + 4)) (.asg (.name 3) (.glob 1)) [some (.lst (cs.map .int)), some (fr rate), some (fr b), none, none, none, none, none] M = .nx (sl8 cs rate b 0 none none none none) M := by
      have c1 := cst1
      unfold sl8
      generalize fr rate = y1 at *
      generalize fr b = y2 at *
      generalize fr 0 = y3 at *
      generalize cs.map PV.int = y9 at *
      simp [c1]
    have s2 : ev T (F (k + 4)) (.var 0) (sl8 cs rate b 0 none none none none) M = .ok (.lst (cs.map .int)) M := by
      unfold sl8
      simp
    rw [exs_cons, s1, seq_nx, exs_cons, ex_for, evI_enum, s2, bind_ok, seqL, enK_some, ofR_ok]
    show (forR [] _ _ (enumL (cs.map PV.int)) _ M).seq _ = _
    rw [hen]
  rw [F_run (n := 5) rfl rfl rfl]
  show ∃ o, runK M.length (exs T (F (k + 4)) (.cons (.asg (.name 3) (.glob 1)) (.cons (.forS (.tup [.name 4, .name 5]) (.enum (.var 0)) fosBody) (.cons (.ret .non) .nil))) [some (.lst (cs.map .int)), some (fr rate), some (fr b), none, none, none, none, none] M) = _ ∧ _
  rw [s0]
  rcases key with ⟨sp', M', e, rfl, _, h⟩ | ⟨j, p, M', e, _, _, rfl, f, rfl, h1, h2, h3⟩
  · rw [e, seq_nx, exs_cons, ex_ret, ev_non, ofR_ok, seq_ret, runK_ret, gcM_self]
    refine ⟨none, rfl, fun l f hb => h l f ?_ hb⟩
    rw [Nat.zero_add, List.length_zipIdx]
    exact hb.2.1
  · rw [e, seq_ret, runK_ret, gcM_self]
    refine ⟨some (j, f), rfl, h1, fun l' f' hb => ?_⟩
    by_cases q : l' < j
    · exact absurd hb (h3 l' f' q)
    · by_cases q2 : l' = j
      · subst q2
        exact .inr ⟨rfl, h2 f' hb⟩
      · exact .inl (by omega)
end My
set_option maxHeartbeats 4000000
namespace My
open PySem DI
/-! ### first_passed -/
def tri (l f k : Nat) : List Int := [(l : Int), (f : Int), (k : Int)]
theorem tri_lt {l f k l' f' k' : Nat} : tri l f k < tri l' f' k' ↔ l < l' ∨ (l = l' ∧ (f < f' ∨ (f = f' ∧ k < k'))) := by
  unfold tri
  simp only [List.cons_lt_cons_iff, List.lt_irrefl, and_false, or_false]
  omega
def P3 (log : List (List Int × Nat)) (bd : List (Rat × Rat)) (l f k : Nat) : Prop := ∃ p, bd[k]? = some p ∧ Bad p.1 p.2 (col log k) l f
def opV3 : Option (Nat × Nat × Nat) → PV
  | none => .non
  | some (l, f, k) => tupI (tri l f k)
def Least3 (P : Nat → Nat → Nat → Prop) : Option (Nat × Nat × Nat) → Prop
  | none => ∀ l f k, ¬ P l f k
  | some (l, f, k) => P l f k ∧ ∀ l' f' k', P l' f' k' → ¬ tri l' f' k' < tri l f k
theorem Least3.uniq {P : Nat → Nat → Nat → Prop} {o o' : Option (Nat × Nat × Nat)} (h : Least3 P o) (h' : Least3 P o') : o = o' := by
  cases o with
  | none =>
    cases o' with
    | none => rfl
    | some t => obtain ⟨l, f, k⟩ := t; exact absurd h'.1 (h l f k)
  | some t =>
    obtain ⟨l, f, k⟩ := t
    cases o' with
    | none => exact absurd h.1 (h' l f k)
    | some t' =>
      obtain ⟨l', f', k'⟩ := t'
      have h1 := h.2 l' f' k' h'.1
      have h2 := h'.2 l f k h.1
      rw [tri_lt] at h1 h2
      have : l = l' ∧ f = f' ∧ k = k' := by omega
      obtain ⟨rfl, rfl, rfl⟩ := this
      rfl
def slA (st : List PV) (log : List (List Int × Nat)) (bd : List (Rat × Rat)) (n : Nat) (p4 p5 p6 p7 p8 p9 : Option PV) : Sl := [some (.tup st), some (logV log), some (bdV bd), some (.ref n), p4, p5, p6, p7, p8, p9]
def fpCall : CE := (.call 27 (.cons (.comp [("comes", 8), ("number", 9)] (.tup [(.name 8), (.name 9)]) (.seq (.var 1)) none (.idx (.var 8) (.var 4))) (.cons (.var 6) (.cons (.var 7) .nil))))
def fpApp : CE := (.meth .append (.var 3) (.cons (.tup (.star (.var 5) (.cons (.var 4) .nil))) .nil))
def fpBody : CSs := (.cons (.asg (.name 5) fpCall) (.cons (.ite (.cmp .IsNot (.var 5) .non) (.cons (.expr fpApp) .nil) .nil) .nil))
theorem e_fp (k : Nat) (st : List PV) (log : List (List Int × Nat)) (bd : List (Rat × Rat)) (n : Nat) (i : Nat) (p : Rat × Rat) (hc : ∀ t ∈ log, i < t.1.length) (hl : log.length < 999) (hd : p.1.den < 2 ^ 32) (hb : p.2.den < 2 ^ 32) (p5 p8 p9 : Option PV) (M : Store) (xs : List PV) (hx : lstAt M n = some xs) (hxl : xs.length < 1000) :
    ∃ o, Least2 (Bad p.1 p.2 (col log i)) o ∧ exs T (F (k + 5)) fpBody (slA st log bd n (some (.int (i : Int))) p5 (some (fr p.1)) (some (fr p.2)) p8 p9) M =
      .nx (slA st log bd n (some (.int (i : Int))) (some (opV2 o)) (some (fr p.1)) (some (fr p.2)) p8 p9) (match o with | none => M | some (l, f) => M.set n (some (.lst (xs ++ [tupI (tri l f i)])))) := by
  obtain ⟨o, e, h⟩ := f_first k p.1 p.2 (col log i) (by simp [col]; omega) hd hb M
  refine ⟨o, h, ?_⟩
  have hcol := comp_col (Γ := F (k + 5)) (sp := slA st log bd n (some (.int (i : Int))) p5 (some (fr p.1)) (some (fr p.2)) p8 p9) (c1 := 8) (c2 := 9) (i := 4) log i hc (by simp [slA]) (by simp [slA]) rfl (by omega) (by omega) (by omega) M
  have s1 : ev T (F (k + 5)) fpCall (slA st log bd n (some (.int (i : Int))) p5 (some (fr p.1)) (some (fr p.2)) p8 p9) M = .ok (opV2 o) M := by
    have hsq := seq_log (M := M) log
    unfold fpCall
    unfold slA at hcol ⊢
    generalize fr p.1 = y1 at *
    generalize fr p.2 = y2 at *
    generalize logV log = y3 at *
    generalize bdV bd = y4 at *
    generalize log.map turnV = y5 at *
    generalize (col log i).map PV.int = y6 at *
    simp [hsq, hcol, e]
  have hlen : (slA st log bd n (some (.int (i : Int))) p5 (some (fr p.1)) (some (fr p.2)) p8 p9).length = 10 := rfl
  have s2 : (slA st log bd n (some (.int (i : Int))) p5 (some (fr p.1)) (some (fr p.2)) p8 p9).set 5 (some (opV2 o)) = slA st log bd n (some (.int (i : Int))) (some (opV2 o)) (some (fr p.1)) (some (fr p.2)) p8 p9 := rfl
  unfold fpBody
  rw [exs_cons, ex_asg, s1, ofR_ok, asgK_name, hlen, if_pos (by omega), s2, seq_nx, exs_cons, ex_ite]
  cases o with
  | none =>
    have s3 : ev T (F (k + 5)) (.cmp .IsNot (.var 5) .non) (slA st log bd n (some (.int (i : Int))) (some (opV2 none)) (some (fr p.1)) (some (fr p.2)) p8 p9) M = .ok (.bl false) M := by
      unfold slA opV2
      simp
    rw [s3, evTr_bl, ofR_ok, if_neg (by simp), exs_nil, seq_nx, exs_nil]
  | some t =>
    obtain ⟨l, f⟩ := t
    have s3 : ev T (F (k + 5)) (.cmp .IsNot (.var 5) .non) (slA st log bd n (some (.int (i : Int))) (some (opV2 (some (l, f)))) (some (fr p.1)) (some (fr p.2)) p8 p9) M = .ok (.bl true) M := by
      unfold slA opV2
      simp
    have s4 : ev T (F (k + 5)) fpApp (slA st log bd n (some (.int (i : Int))) (some (opV2 (some (l, f)))) (some (fr p.1)) (some (fr p.2)) p8 p9) M = .ok .non (M.set n (some (.lst (xs ++ [tupI (tri l f i)])))) := by
      have hz : 1000 ≤ sizeLine := by decide
      have h3 : 3 ≤ sizeLine := by decide
      have ha := bmAppend (p := tupI (tri l f i)) hx (by omega)
      have ht := mAppend hx
      have hu : PV.tup [.int (l : Int), .int (f : Int), .int (i : Int)] = tupI (tri l f i) := rfl
      unfold fpApp slA opV2
      simp [ht, h3, hu, ha]
    rw [s3, evTr_bl, ofR_ok, if_pos rfl, exs_cons, ex_expr, s4, ofR_ok, seq_nx, exs_nil, seq_nx, exs_nil]
end My
set_option maxHeartbeats 4000000
namespace My
open PySem DI
theorem passed_exc (k : Nat) (st : List PV) (L x : PV) (M : Store) (h : F (k + 1) 11 [x] M = .ok (.bl false) M) : F (k + 2) 28 [.tup st, L, x] M = .exc ⟨0, []⟩ M := by
  rw [F_run (n := 7) rfl rfl rfl]
  simp [h]
theorem passed_len (k : Nat) (st xs : List PV) (L : PV) (M : Store) (h : F (k + 1) 11 [.tup xs] M = .ok (.bl true) M) (hl : xs.length ≠ st.length) : F (k + 2) 28 [.tup st, L, .tup xs] M = .exc ⟨0, []⟩ M := by
  have e : neP M (.int (xs.length : Int)) (.int (st.length : Int)) = some (.bl true) := by
    rw [neP_int, decide_eq_false (by omega)]
    rfl
  rw [F_run (n := 7) rfl rfl rfl]
  simp only [exs_cons, ex_ite, ev_or, evOr_cons, evOr_one, ev_not, ev_call, evs_cons, evs_nil, ev_cmp, ev_callB]
  simp [h, e]
def fpCk : CE := (.orE (.cons (.notE (.call 11 (.cons (.var 2) .nil))) (.cons (.cmp .NotEq (.callB .len (.cons (.var 2) .nil)) (.callB .len (.cons (.var 0) .nil))) .nil)))
def fpRet : CE := (.ife (.cmp .NotEq (.var 3) (.lst .nil)) (.callB .min (.cons (.var 3) .nil)) .non)
theorem lst_last {M : Store} {xs : List PV} : lstAt (M ++ [some (.lst xs)]) M.length = some xs := lstAt_last
theorem f_first_passed (k : Nat) (st : List PV) (log : List (List Int × Nat)) (bd : List (Rat × Rat)) (hs : bd.length = st.length) (hs2 : st.length < 900) (hc : ∀ t ∈ log, t.1.length = st.length) (hl : log.length < 999) (hf : ∀ p ∈ bd, Few p.1 ∧ Few p.2) (hd : ∀ p ∈ bd, p.1.den < 2 ^ 32 ∧ p.2.den < 2 ^ 32) (M : Store) (hM : okS M) :
    ∃ o, F (k + 10) 28 [.tup st, logV log, bdV bd] M = .ok (opV3 o) M ∧ Least3 (P3 log bd) o := by
  have key := forR_inv (b := asg (.tup [.name 4, .tup [.name 6, .name 7]])) (body := exs T (F (k + 9)) fpBody) (fun p : (Rat × Rat) × Nat => PV.tup [.int (p.2 : Int), .tup [fr p.1.1, fr p.1.2]])
    (fun i sp M' => ∃ found : List (List Int), M' = M ++ [some (.lst (found.map tupI))] ∧ found.length ≤ i ∧ (∃ p4 p5 p6 p7 p8 p9, sp = slA st log bd M.length p4 p5 p6 p7 p8 p9) ∧ (∀ t ∈ found, ∃ l f k, t = tri l f k ∧ P3 log bd l f k) ∧ ∀ l f k, k < i → P3 log bd l f k → ∃ t ∈ found, ¬ tri l f k < t)
    (items := bd.zipIdx) (i := 0) (sp := slA st log bd M.length none none none none none none) (M := M ++ [some (.lst [])])
    ⟨[], rfl, by simp, ⟨_, _, _, _, _, _, rfl⟩, by simp, fun l f k h => by omega⟩
    (fun j p sp M' hp hI => by
      obtain ⟨found, rfl, hfl, ⟨p4, p5, p6, p7, p8, p9, rfl⟩, h1, h2⟩ := hI
      have hlt : j < bd.length := by
        have := (List.getElem?_eq_some_iff.mp hp).1
        simpa using this
      have hpj : p = (bd[j], j) := by
        rw [List.getElem?_eq_getElem (by simpa using hlt)] at hp
        have := Option.some.inj hp
        simpa using this.symm
      subst hpj
      rw [Nat.zero_add] at hfl h2 ⊢
      have hm : bd[j] ∈ bd := List.getElem_mem hlt
      have hg : bd[j]? = some bd[j] := List.getElem?_eq_getElem hlt
      obtain ⟨o, ho, e⟩ := e_fp (k + 4) st log bd M.length j bd[j] (fun t ht => by rw [hc t ht]; omega) hl (hd _ hm).1 (hd _ hm).2 p5 p8 p9 (M ++ [some (.lst (found.map tupI))]) (found.map tupI) lst_last (by simp; omega)
      refine ⟨slA st log bd M.length (some (.int (j : Int))) p5 (some (fr bd[j].1)) (some (fr bd[j].2)) p8 p9, rfl, _, _, .inl e, ?_⟩
      cases o with
      | none =>
        refine ⟨found, rfl, by omega, ⟨_, _, _, _, _, _, rfl⟩, h1, fun l f k hk hP => ?_⟩
        by_cases q : k = j
        · subst q
          obtain ⟨p, hp1, hp2⟩ := hP
          rw [hg] at hp1
          cases hp1
          exact absurd hp2 (ho l f)
        · exact h2 l f k (by omega) hP
      | some t =>
        obtain ⟨l, f⟩ := t
        refine ⟨found ++ [tri l f j], ?_, by simp; omega, ⟨_, _, _, _, _, _, rfl⟩, ?_, fun l' f' k hk hP => ?_⟩
        · dsimp only
          rw [set_last, List.map_append]
          rfl
        · intro t ht
          rcases List.mem_append.mp ht with q | q
          · exact h1 t q
          · rw [List.mem_singleton.mp q]
            exact ⟨l, f, j, rfl, bd[j], hg, ho.1⟩
        · by_cases q : k = j
          · subst q
            obtain ⟨p, hp1, hp2⟩ := hP
            rw [hg] at hp1
            cases hp1
            refine ⟨tri l f k, by simp, ?_⟩
            have := ho.2 l' f' hp2
            rw [tri_lt]
            omega
          · obtain ⟨t, ht, h3⟩ := h2 l' f' k (by omega) hP
            exact ⟨t, List.mem_append.mpr (.inl ht), h3⟩)
  obtain ⟨sp', M', e, found, rfl, hfl, ⟨p4, p5, p6, p7, p8, p9, rfl⟩, h1, h2⟩ := key
  have hen : enumL (bd.map fun p => PV.tup [fr p.1, fr p.2]) = bd.zipIdx.map fun p => .tup [.int (p.2 : Int), .tup [fr p.1.1, fr p.1.2]] := enumLA (fun p : Rat × Rat => PV.tup [fr p.1, fr p.2]) bd
  have hb := bound_ok k bd hf M
  have hln : biP .len M [bdV bd] = some (.int (bd.length : Int)) := by simp [bdV]
  have hne : neP M (.int (bd.length : Int)) (.int (st.length : Int)) = some (.bl false) := by
    rw [neP_int, decide_eq_true (by omega)]
    rfl
  have s1 : ev T (F (k + 9)) fpCk [some (.tup st), some (logV log), some (bdV bd), none, none, none, none, none, none, none] M = .ok (.bl false) M := by
    unfold fpCk
    generalize logV log = y3 at *
    generalize bdV bd = y4 at *
    generalize (bd.length : Int) = y5 at *
    simp [hb, hln, hne]
  have hz : ([] : List PV).length ≤ sizeLine := Nat.zero_le _
  have s2 : ex T (F (k + 9)) (.asg (.name 3) (.lstR .nil)) [some (.tup st), some (logV log), some (bdV bd), none, none, none, none, none, none, none] M = .nx (slA st log bd M.length none none none none none none) (M ++ [some (.lst [])]) := by
    unfold slA
    rw [ex_asg, ev_lstR, evs_nil, bind_ok, if_pos hz, ofR_ok, asgK_name]
    rfl
  have s3 : ev T (F (k + 9)) (.var 2) (slA st log bd M.length none none none none none none) (M ++ [some (.lst [])]) = .ok (bdV bd) (M ++ [some (.lst [])]) := rfl
  have s4 : seqIt (M ++ [some (.lst [])]) (bdV bd) = some ⟨bd.map fun p => PV.tup [fr p.1, fr p.2], []⟩ := rfl
  have s5 : ∃ o, ev T (F (k + 9)) fpRet (slA st log bd M.length p4 p5 p6 p7 p8 p9) (M ++ [some (.lst (found.map tupI))]) = .ok (opV3 o) (M ++ [some (.lst (found.map tupI))]) ∧ Least3 (P3 log bd) o := by
    have hlast := lst_last (M := M) (xs := found.map tupI)
    have hcl : cln 60 (.lst (found.map tupI)) = true := cln_lst fun x hx => by
      obtain ⟨t, _, rfl⟩ := List.mem_map.mp hx
      exact cln_tupI t 58
    have hv : ev T (F (k + 9)) (.var 3) (slA st log bd M.length p4 p5 p6 p7 p8 p9) (M ++ [some (.lst (found.map tupI))]) = .ok (.ref M.length) (M ++ [some (.lst (found.map tupI))]) := rfl
    by_cases hfd : found = []
    · subst hfd
      refine ⟨none, ?_, fun l f k hP => ?_⟩
      · have hn : neP (M ++ [some (.lst (([] : List (List Int)).map tupI))]) (.ref M.length) (.lst []) = some (.bl false) := by
          rw [neP_ref hlast]
          exact neP_same rfl
        unfold fpRet
        rw [ev_ifE, ev_cmp, hv, bind_ok, ev_lst, evs_nil, bind_ok, if_pos hz, bind_ok, cN, hn, ofO_some, bind_ok, ifK_f, ev_non]
        rfl
      · obtain ⟨p, hp, hp2⟩ := hP
        have hk : k < bd.length := (List.getElem?_eq_some_iff.mp hp).1
        obtain ⟨t, ht, _⟩ := h2 l f k (by simpa using hk) ⟨p, hp, hp2⟩
        simp at ht
    · obtain ⟨m, em, hm1, hm2⟩ := biMinT found hlast hfd (d := 3) (fun t ht => by
        obtain ⟨l, f, k, rfl, _⟩ := h1 t ht
        rfl)
      obtain ⟨l, f, kk, rfl, hP⟩ := h1 m hm1
      refine ⟨some (l, f, kk), ?_, hP, fun l' f' k' hP' => ?_⟩
      · have hn : neP (M ++ [some (.lst (found.map tupI))]) (.ref M.length) (.lst []) = some (.bl true) := by
          rw [neP_ref hlast]
          exact neP_diff hcl rfl (fun q => hfd (by simpa using q))
        unfold fpRet
        rw [ev_ifE, ev_cmp, hv, bind_ok, ev_lst, evs_nil, bind_ok, if_pos hz, bind_ok, cN, hn, ofO_some, bind_ok, ifK_t, ev_callB, evs_cons, hv, bind_ok, evs_nil, bind_ok, bind_ok, em, ofO_some]
        rfl
      · obtain ⟨p, hp, hp2⟩ := hP'
        have hk : k' < bd.length := (List.getElem?_eq_some_iff.mp hp).1
        obtain ⟨t, ht, h3⟩ := h2 l' f' k' (by simpa using hk) ⟨p, hp, hp2⟩
        intro hlt
        have h4 := hm2 t ht
        have h5 : t ≤ tri l' f' k' := List.not_lt.mp h3
        exact h4 (List.lt_of_le_of_lt h5 hlt)
  obtain ⟨o, e5, ho⟩ := s5
  refine ⟨o, ?_, ho⟩
  have hgc : gcM M.length (M ++ [some (.lst (found.map tupI))]) [opV3 o] = M := gcM_app hM (by
    cases o with
    | none => simp [opV3, okRefs, okRef]
    | some t => obtain ⟨l, f, k⟩ := t; simp [opV3, tupI, tri, okRefs, okRef])
  rw [F_run (n := 7) rfl rfl rfl]
  show runK M.length (exs T (F (k + 9)) (.cons (.ite fpCk (.cons (.raise 0 .nil) .nil) .nil) (.cons (.asg (.name 3) (.lstR .nil)) (.cons (.forS (.tup [.name 4, .tup [.name 6, .name 7]]) (.enum (.var 2)) fpBody) (.cons (.ret fpRet) .nil)))) [some (.tup st), some (logV log), some (bdV bd), none, none, none, none, none, none, none] M) = _
  rw [exs_cons, ex_ite, s1, evTr_bl, ofR_ok, if_neg (by simp), exs_nil, seq_nx, exs_cons, s2, seq_nx, exs_cons, ex_for, evI_enum, s3, bind_ok, s4, enK_some, ofR_ok]
  show runK M.length (SRes.seq (forR [] _ _ (enumL (bd.map fun p => PV.tup [fr p.1, fr p.2])) _ _) _) = _
  rw [hen, e, seq_nx, exs_cons, ex_ret, e5, ofR_ok, seq_ret, runK_ret, hgc]
end My
set_option maxHeartbeats 4000000
namespace My
open PySem DI
/-! ### _law_passed -/
def sl9 (log : List (List Int × Nat)) (bd : List (Rat × Rat)) (p2 p3 p4 p5 p6 p7 p8 : Option PV) : Sl := [some (logV log), some (bdV bd), p2, p3, p4, p5, p6, p7, p8]
def lpSum : CE := (.callB .sum (.cons (.comp [("one", 8)] (.name 8) (.seq (.slc (.var 0) (some (.var 3)) (some (.bin .Add (.var 2) (.int 1))))) none (.idx (.idx (.var 8) (.int 0)) (.var 4))) .nil))
def lpTest : CE := (.call 40 (.cons (.call 37 (.cons (.var 7) (.cons (.call 38 (.cons (.var 6) (.cons (.tup (.cons (.bin .Sub (.bin .Add (.var 2) (.int 1)) (.var 3)) (.cons (.int 1) .nil))) .nil))) .nil))) (.cons (.var 5) .nil)))
def lpRet : CE := (.tup (.cons (.var 2) (.cons (.var 3) (.cons (.var 4) .nil))))
def lp3 : CSs := (.cons (.asg (.name 5) (.tup (.cons lpSum (.cons (.int 1) .nil)))) (.cons (.ite lpTest (.cons (.ret lpRet) .nil) .nil) .nil))
def lp2 : CSs := (.cons (.forS (.tup [(.name 4), (.tup [(.name 6), (.name 7)])]) (.enum (.var 1)) lp3) .nil)
def lp1 : CSs := (.cons (.forS (.name 3) (.rng1 (.bin .Add (.var 2) (.int 1))) lp2) .nil)
theorem slc_log {M : Store} (log : List (List Int × Nat)) (i j : Nat) (hj : j < log.length) (hi : i ≤ j) : slcP M (logV log) (some (i : Int)) (some ((j : Int) + 1)) = some (.tup (((log.drop i).take (j + 1 - i)).map turnV)) := by
  have h := cut_nat (log.map turnV) i (j + 1) (by simp; omega) (by omega)
  simp only [slcP, logV]
  rw [show ((j : Int) + 1) = ((j + 1 : Nat) : Int) by omega, h, List.map_take, List.map_drop]
theorem e_lpSum (k : Nat) (log : List (List Int × Nat)) (bd : List (Rat × Rat)) (l f i : Nat) (hf : f ≤ l) (hl : l < log.length) (hc : ∀ t ∈ log, i < t.1.length) (p5 p6 p7 p8 : Option PV) (M : Store) :
    ev T (F k) lpSum (sl9 log bd (some (.int (l : Int))) (some (.int (f : Int))) (some (.int (i : Int))) p5 p6 p7 p8) M = .ok (.int ((((col log i).drop f).take (l + 1 - f)).sum)) M := by
  have hs := slc_log (M := M) log f l hl hf
  have e1 := compR_mapA (step := stepC (.name 8) [8] (evC T (F k) none) (ev T (F k) (.idx (.idx (.var 8) (.int 0)) (.var 4))) (sl9 log bd (some (.int (l : Int))) (some (.int (f : Int))) (some (.int (i : Int))) p5 p6 p7 p8)) (M := M) turnV (fun t => PV.int (t.1.getD i 0)) (items := (log.drop f).take (l + 1 - f)) (fun t ht => by
    have hm : t ∈ log := List.mem_of_mem_drop (List.mem_of_mem_take ht)
    have e := idx_get (M := M) (getD_int (hc t hm))
    have e0 : idxP M (turnV t) (.int 0) = some (.tup (t.1.map .int)) := idx0
    unfold sl9
    generalize turnV t = y1 at *
    generalize logV log = y2 at *
    generalize bdV bd = y3 at *
    generalize t.1.map PV.int = y4 at *
    generalize t.1.getD i 0 = y5 at *
    generalize (i : Int) = y6 at *
    simp [stepC, asg, wipeP, e0, e])
  have e2 : ((log.drop f).take (l + 1 - f)).map (fun t => PV.int (t.1.getD i 0)) = (((col log i).drop f).take (l + 1 - f)).map PV.int := by
    unfold col
    rw [List.map_take, List.map_drop, List.map_take, List.map_drop, List.map_map]
    rfl
  rw [e2] at e1
  have e3 := biSum (M := M) (((col log i).drop f).take (l + 1 - f))
  generalize ((col log i).drop f).take (l + 1 - f) = w at *
  unfold lpSum
  unfold sl9 at e1 ⊢
  generalize ((log.drop f).take (l + 1 - f)).map turnV = y1 at *
  generalize logV log = y2 at *
  generalize bdV bd = y3 at *
  generalize w.map PV.int = y4 at *
  generalize w.sum = y5 at *
  generalize (l : Int) = y6 at *
  generalize (f : Int) = y7 at *
  generalize (i : Int) = y8 at *
  simp [hs, e1, e3]
theorem e_lpTest (k : Nat) (log : List (List Int × Nat)) (bd : List (Rat × Rat)) (l f : Nat) (cs : List Int) (rate b : Rat) (hf : f ≤ l) (hl : l < cs.length) (hcl : cs.length < 1000) (hd : rate.den < 2 ^ 32) (hb : b.den < 2 ^ 32) (p4 p8 : Option PV) (M : Store) :
    ev T (F (k + 3)) lpTest (sl9 log bd (some (.int (l : Int))) (some (.int (f : Int))) p4 (some (.tup [.int (((cs.drop f).take (l + 1 - f)).sum), .int 1])) (some (fr rate)) (some (fr b)) p8) M = .ok (.bl (decide (b < W rate cs f l))) M := by
  have hlen : ((cs.drop f).take (l + 1 - f)).length = l + 1 - f := by simp; omega
  have d32 : (2 ^ 32 : Nat) < 2 ^ 64 := by decide
  have hrd := rate.den_pos
  have e1 := f_law_mul (k + 1) rate (((l : Int) + 1 - f : Int) : Rat) (by omega) (by show 1 < 2 ^ 64; decide) (smI_of (by show -100000 < (l : Int) + 1 - f; omega) (by show (l : Int) + 1 - f < 100000; omega)) M
  have ho : ((rate * (((l : Int) + 1 - f : Int) : Rat))).den < 2 ^ 32 := Nat.lt_of_le_of_lt (((Over.self rate).mulInt _).den hrd) hd
  have e2 := f_law_add (k + 1) b (rate * (((l : Int) + 1 - f : Int) : Rat)) (by omega) (by omega) M
  have e3 := f_law_below (k + 2) (b + rate * (((l : Int) + 1 - f : Int) : Rat)) ((((cs.drop f).take (l + 1 - f)).sum : Int) : Rat) (add_den hb ho) (by show 1 < 2 ^ 64; decide) M
  have hw : decide (b < W rate cs f l) = decide (b + rate * (((l : Int) + 1 - f : Int) : Rat) < ((((cs.drop f).take (l + 1 - f)).sum : Int) : Rat)) := by
    refine decide_eq_decide.mpr ?_
    unfold W val
    rw [hlen, show ((l + 1 - f : Nat) : Int) = (l : Int) + 1 - f by omega]
    constructor <;> intro h <;> grind
  rw [hw]
  generalize decide (b + rate * (((l : Int) + 1 - f : Int) : Rat) < ((((cs.drop f).take (l + 1 - f)).sum : Int) : Rat)) = r at *
  generalize fr (b + rate * (((l : Int) + 1 - f : Int) : Rat)) = y3 at *
  generalize fr (rate * (((l : Int) + 1 - f : Int) : Rat)) = y2 at *
  rw [fr_int] at e1 e3
  unfold lpTest sl9
  generalize ((cs.drop f).take (l + 1 - f)).sum = w at *
  generalize fr rate = y5 at *
  generalize fr b = y6 at *
  generalize logV log = y7 at *
  generalize bdV bd = y8 at *
  simp [e1, e2, e3, sz2]
theorem e_lp3 (k : Nat) (log : List (List Int × Nat)) (bd : List (Rat × Rat)) (l f i : Nat) (p : Rat × Rat) (hf : f ≤ l) (hl : l < log.length) (hll : log.length < 1000) (hc : ∀ t ∈ log, i < t.1.length) (hd : p.1.den < 2 ^ 32) (hb : p.2.den < 2 ^ 32) (p5 p8 : Option PV) (M : Store) :
    (Bad p.1 p.2 (col log i) l f ∧ exs T (F (k + 3)) lp3 (sl9 log bd (some (.int (l : Int))) (some (.int (f : Int))) (some (.int (i : Int))) p5 (some (fr p.1)) (some (fr p.2)) p8) M = .ret (tupI (tri l f i)) M) ∨
    (¬ Bad p.1 p.2 (col log i) l f ∧ ∃ p5', exs T (F (k + 3)) lp3 (sl9 log bd (some (.int (l : Int))) (some (.int (f : Int))) (some (.int (i : Int))) p5 (some (fr p.1)) (some (fr p.2)) p8) M = .nx (sl9 log bd (some (.int (l : Int))) (some (.int (f : Int))) (some (.int (i : Int))) p5' (some (fr p.1)) (some (fr p.2)) p8) M) := by
  have hcl : (col log i).length = log.length := by simp [col]
  have e1 := e_lpSum (k + 3) log bd l f i hf hl hc p5 (some (fr p.1)) (some (fr p.2)) p8 M
  have e2 := e_lpTest k log bd l f (col log i) p.1 p.2 hf (by omega) (by omega) hd hb (some (.int (i : Int))) p8 M
  have hbad : (decide (p.2 < W p.1 (col log i) f l) = true) ↔ Bad p.1 p.2 (col log i) l f := by
    rw [decide_eq_true_iff]
    exact ⟨fun h => ⟨hf, by omega, h⟩, fun h => h.2.2⟩
  generalize ((col log i).drop f).take (l + 1 - f) = w at *
  have s1 : ev T (F (k + 3)) (.tup (.cons lpSum (.cons (.int 1) .nil))) (sl9 log bd (some (.int (l : Int))) (some (.int (f : Int))) (some (.int (i : Int))) p5 (some (fr p.1)) (some (fr p.2)) p8) M = .ok (.tup [.int w.sum, .int 1]) M := by
    rw [ev_tup, evs_cons, e1, bind_ok, evs_cons, ev_int, bind_ok, evs_nil, bind_ok, bind_ok, bind_ok, if_pos (by exact sz2)]
  have hlen : (sl9 log bd (some (.int (l : Int))) (some (.int (f : Int))) (some (.int (i : Int))) p5 (some (fr p.1)) (some (fr p.2)) p8).length = 9 := rfl
  have s2 : (sl9 log bd (some (.int (l : Int))) (some (.int (f : Int))) (some (.int (i : Int))) p5 (some (fr p.1)) (some (fr p.2)) p8).set 5 (some (.tup [.int w.sum, .int 1])) = sl9 log bd (some (.int (l : Int))) (some (.int (f : Int))) (some (.int (i : Int))) (some (.tup [.int w.sum, .int 1])) (some (fr p.1)) (some (fr p.2)) p8 := rfl
  have s3 : ev T (F (k + 3)) lpRet (sl9 log bd (some (.int (l : Int))) (some (.int (f : Int))) (some (.int (i : Int))) (some (.tup [.int w.sum, .int 1])) (some (fr p.1)) (some (fr p.2)) p8) M = .ok (tupI (tri l f i)) M := by
    have h3 : 3 ≤ sizeLine := by decide
    unfold lpRet sl9 tupI tri
    simp [h3]
  unfold lp3
  rw [exs_cons, ex_asg, s1, ofR_ok, asgK_name, hlen, if_pos (by omega), s2, seq_nx, exs_cons, ex_ite, e2, evTr_bl, ofR_ok]
  by_cases h : Bad p.1 p.2 (col log i) l f
  · rw [if_pos (hbad.mpr h), exs_cons, ex_ret, s3, ofR_ok, seq_ret, seq_ret]
    exact .inl ⟨h, rfl⟩
  · rw [if_neg (fun z => h (hbad.mp z)), exs_nil, seq_nx, exs_nil]
    exact .inr ⟨h, _, rfl⟩
end My
set_option maxHeartbeats 4000000
namespace My
open PySem DI
structure LogOk (log : List (List Int × Nat)) (bd : List (Rat × Rat)) : Prop where
  ll : log.length < 999
  c : ∀ t ∈ log, t.1.length = bd.length
  d : ∀ p ∈ bd, p.1.den < 2 ^ 32 ∧ p.2.den < 2 ^ 32
theorem zip_at {α : Type} {l : List α} {j : Nat} {p : α × Nat} (hp : l.zipIdx[j]? = some p) : ∃ h : j < l.length, p = (l[j], j) := by
  have hlt : j < l.length := by
    have := (List.getElem?_eq_some_iff.mp hp).1
    simpa using this
  refine ⟨hlt, ?_⟩
  rw [List.getElem?_eq_getElem (by simpa using hlt)] at hp
  have := Option.some.inj hp
  simpa using this.symm
theorem rng_at {n j t : Nat} (ht : (List.range n)[j]? = some t) : t = j ∧ j < n := by
  have hlt : j < n := by
    have := (List.getElem?_eq_some_iff.mp ht).1
    simpa using this
  rw [List.getElem?_range hlt] at ht
  exact ⟨(Option.some.inj ht).symm, hlt⟩
/-- over the streams -/
theorem e_lpF3 (k : Nat) (log : List (List Int × Nat)) (bd : List (Rat × Rat)) (ok : LogOk log bd) (l f : Nat) (hf : f ≤ l) (hl : l < log.length) (p4 p5 p6 p7 p8 : Option PV) (M : Store) :
    (∃ q4 q5 q6 q7 q8, forR [] (asg (.tup [(.name 4), (.tup [(.name 6), (.name 7)])])) (exs T (F (k + 3)) lp3) (bd.zipIdx.map fun p => .tup [.int (p.2 : Int), .tup [fr p.1.1, fr p.1.2]]) (sl9 log bd (some (.int (l : Int))) (some (.int (f : Int))) p4 p5 p6 p7 p8) M = .nx (sl9 log bd (some (.int (l : Int))) (some (.int (f : Int))) q4 q5 q6 q7 q8) M ∧ ∀ i, ¬ P3 log bd l f i) ∨
    ∃ i, forR [] (asg (.tup [(.name 4), (.tup [(.name 6), (.name 7)])])) (exs T (F (k + 3)) lp3) (bd.zipIdx.map fun p => .tup [.int (p.2 : Int), .tup [fr p.1.1, fr p.1.2]]) (sl9 log bd (some (.int (l : Int))) (some (.int (f : Int))) p4 p5 p6 p7 p8) M = .ret (tupI (tri l f i)) M ∧ P3 log bd l f i ∧ ∀ i', i' < i → ¬ P3 log bd l f i' := by
  have key := forR_ret (b := asg (.tup [(.name 4), (.tup [(.name 6), (.name 7)])])) (body := exs T (F (k + 3)) lp3) (fun p : (Rat × Rat) × Nat => PV.tup [.int (p.2 : Int), .tup [fr p.1.1, fr p.1.2]])
    (fun i sp M' => M' = M ∧ (∃ q4 q5 q6 q7 q8, sp = sl9 log bd (some (.int (l : Int))) (some (.int (f : Int))) q4 q5 q6 q7 q8) ∧ ∀ i', i' < i → ¬ P3 log bd l f i')
    (fun i p M' => M' = M ∧ p = tupI (tri l f i) ∧ P3 log bd l f i ∧ ∀ i', i' < i → ¬ P3 log bd l f i')
    (items := bd.zipIdx) (i := 0) (sp := sl9 log bd (some (.int (l : Int))) (some (.int (f : Int))) p4 p5 p6 p7 p8) (M := M)
    ⟨rfl, ⟨_, _, _, _, _, rfl⟩, fun i' h => by omega⟩
    (fun j p sp M' hp hI => by
      obtain ⟨rfl, ⟨q4, q5, q6, q7, q8, rfl⟩, hno⟩ := hI
      obtain ⟨hlt, rfl⟩ := zip_at hp
      rw [Nat.zero_add] at hno ⊢
      have hm : bd[j] ∈ bd := List.getElem_mem hlt
      have hg : bd[j]? = some bd[j] := List.getElem?_eq_getElem hlt
      refine ⟨sl9 log bd (some (.int (l : Int))) (some (.int (f : Int))) (some (.int (j : Int))) q5 (some (fr bd[j].1)) (some (fr bd[j].2)) q8, rfl, ?_⟩
      have hll := ok.ll
      rcases e_lp3 k log bd l f j bd[j] hf hl (by omega) (fun t ht => by rw [ok.c t ht]; exact hlt) (ok.d _ hm).1 (ok.d _ hm).2 q5 q8 M' with ⟨h, e⟩ | ⟨h, p5', e⟩
      · exact .inr ⟨_, _, e, rfl, rfl, ⟨_, hg, h⟩, hno⟩
      · refine .inl ⟨_, _, .inl e, rfl, ⟨_, _, _, _, _, rfl⟩, fun i' hi' => ?_⟩
        by_cases q : i' = j
        · subst q
          rintro ⟨p, hp1, hp2⟩
          rw [hg] at hp1
          cases hp1
          exact h hp2
        · exact hno i' (by omega))
  rcases key with ⟨sp', M', e, rfl, ⟨q4, q5, q6, q7, q8, rfl⟩, h⟩ | ⟨j, p, M', e, _, _, rfl, rfl, h1, h2⟩
  · refine .inl ⟨_, _, _, _, _, e, fun i hP => h i ?_ hP⟩
    obtain ⟨p, hp, _⟩ := hP
    have := (List.getElem?_eq_some_iff.mp hp).1
    simpa using this
  · exact .inr ⟨j, e, h1, h2⟩
theorem bd_enum (bd : List (Rat × Rat)) : enumL (bd.map fun p => PV.tup [fr p.1, fr p.2]) = bd.zipIdx.map fun p => .tup [.int (p.2 : Int), .tup [fr p.1.1, fr p.1.2]] := enumLA (fun p : Rat × Rat => PV.tup [fr p.1, fr p.2]) bd
/-- over the firsts -/
theorem e_lpF2 (k : Nat) (log : List (List Int × Nat)) (bd : List (Rat × Rat)) (ok : LogOk log bd) (l : Nat) (hl : l < log.length) (p3 p4 p5 p6 p7 p8 : Option PV) (M : Store) :
    (∃ q3 q4 q5 q6 q7 q8, forR [] (asg (.name 3)) (exs T (F (k + 3)) lp2) ((List.range (l + 1)).map fun j : Nat => PV.int (j : Int)) (sl9 log bd (some (.int (l : Int))) p3 p4 p5 p6 p7 p8) M = .nx (sl9 log bd (some (.int (l : Int))) q3 q4 q5 q6 q7 q8) M ∧ ∀ f i, ¬ P3 log bd l f i) ∨
    ∃ f i, forR [] (asg (.name 3)) (exs T (F (k + 3)) lp2) ((List.range (l + 1)).map fun j : Nat => PV.int (j : Int)) (sl9 log bd (some (.int (l : Int))) p3 p4 p5 p6 p7 p8) M = .ret (tupI (tri l f i)) M ∧ P3 log bd l f i ∧ ∀ f' i', P3 log bd l f' i' → f < f' ∨ (f = f' ∧ i ≤ i') := by
  have key := forR_ret (b := asg (.name 3)) (body := exs T (F (k + 3)) lp2) (fun j : Nat => PV.int (j : Int))
    (fun f sp M' => M' = M ∧ (∃ q3 q4 q5 q6 q7 q8, sp = sl9 log bd (some (.int (l : Int))) q3 q4 q5 q6 q7 q8) ∧ ∀ f' i', f' < f → ¬ P3 log bd l f' i')
    (fun f p M' => M' = M ∧ ∃ i, p = tupI (tri l f i) ∧ P3 log bd l f i ∧ (∀ f' i', f' < f → ¬ P3 log bd l f' i') ∧ ∀ i', i' < i → ¬ P3 log bd l f i')
    (items := List.range (l + 1)) (i := 0) (sp := sl9 log bd (some (.int (l : Int))) p3 p4 p5 p6 p7 p8) (M := M)
    ⟨rfl, ⟨_, _, _, _, _, _, rfl⟩, fun f' i' h => by omega⟩
    (fun j t sp M' ht hI => by
      obtain ⟨rfl, ⟨q3, q4, q5, q6, q7, q8, rfl⟩, hno⟩ := hI
      obtain ⟨rfl, hlt⟩ := rng_at ht
      rw [Nat.zero_add] at hno ⊢
      refine ⟨sl9 log bd (some (.int (l : Int))) (some (.int (t : Int))) q4 q5 q6 q7 q8, rfl, ?_⟩
      have s1 : ev T (F (k + 3)) (.var 1) (sl9 log bd (some (.int (l : Int))) (some (.int (t : Int))) q4 q5 q6 q7 q8) M' = .ok (bdV bd) M' := rfl
      have s4 : seqIt M' (bdV bd) = some ⟨bd.map fun p => PV.tup [fr p.1, fr p.2], []⟩ := rfl
      have s5 : exs T (F (k + 3)) lp2 (sl9 log bd (some (.int (l : Int))) (some (.int (t : Int))) q4 q5 q6 q7 q8) M' = (forR [] (asg (.tup [(.name 4), (.tup [(.name 6), (.name 7)])])) (exs T (F (k + 3)) lp3) (bd.zipIdx.map fun p => .tup [.int (p.2 : Int), .tup [fr p.1.1, fr p.1.2]]) (sl9 log bd (some (.int (l : Int))) (some (.int (t : Int))) q4 q5 q6 q7 q8) M').seq (exs T (F (k + 3)) .nil) := by
        unfold lp2
        rw [exs_cons, ex_for, evI_enum, s1, bind_ok, s4, enK_some, ofR_ok]
        show (forR [] _ _ (enumL (bd.map fun p => PV.tup [fr p.1, fr p.2])) _ _).seq _ = _
        rw [bd_enum]
      rw [s5]
      rcases e_lpF3 k log bd ok l t (by omega) hl q4 q5 q6 q7 q8 M' with ⟨r4, r5, r6, r7, r8, e, h⟩ | ⟨i, e, h1, h2⟩
      · rw [e, seq_nx, exs_nil]
        refine .inl ⟨_, _, .inl rfl, rfl, ⟨_, _, _, _, _, _, rfl⟩, fun f' i' hf' => ?_⟩
        by_cases q : f' = t
        · subst q; exact h i'
        · exact hno f' i' (by omega)
      · rw [e, seq_ret]
        exact .inr ⟨_, _, rfl, rfl, i, rfl, h1, hno, h2⟩)
  rcases key with ⟨sp', M', e, rfl, ⟨q3, q4, q5, q6, q7, q8, rfl⟩, h⟩ | ⟨j, p, M', e, _, _, rfl, i, rfl, h1, h2, h3⟩
  · refine .inl ⟨_, _, _, _, _, _, e, fun f i hP => h f i ?_ hP⟩
    obtain ⟨p, hp, hb⟩ := hP
    have := hb.1
    rw [Nat.zero_add, List.length_range]
    omega
  · refine .inr ⟨j, i, e, h1, fun f' i' hP => ?_⟩
    by_cases q : f' < j
    · exact absurd hP (h2 f' i' q)
    · by_cases q2 : f' = j
      · subst q2
        by_cases q3 : i' < i
        · exact absurd hP (h3 i' q3)
        · exact .inr ⟨rfl, by omega⟩
      · exact .inl (by omega)
theorem f_law_passed (k : Nat) (log : List (List Int × Nat)) (bd : List (Rat × Rat)) (ok : LogOk log bd) (M : Store) :
    ∃ o, F (k + 4) 48 [logV log, bdV bd] M = .ok (opV3 o) M ∧ Least3 (P3 log bd) o := by
  have hll := ok.ll
  have key := forR_ret (b := asg (.name 2)) (body := exs T (F (k + 3)) lp1) (fun j : Nat => PV.int (j : Int))
    (fun l sp M' => M' = M ∧ (∃ q2 q3 q4 q5 q6 q7 q8, sp = sl9 log bd q2 q3 q4 q5 q6 q7 q8) ∧ ∀ l' f' i', l' < l → ¬ P3 log bd l' f' i')
    (fun l p M' => M' = M ∧ ∃ f i, p = tupI (tri l f i) ∧ P3 log bd l f i ∧ (∀ l' f' i', l' < l → ¬ P3 log bd l' f' i') ∧ ∀ f' i', P3 log bd l f' i' → f < f' ∨ (f = f' ∧ i ≤ i'))
    (items := List.range log.length) (i := 0) (sp := sl9 log bd none none none none none none none) (M := M)
    ⟨rfl, ⟨_, _, _, _, _, _, _, rfl⟩, fun l' f' i' h => by omega⟩
    (fun j t sp M' ht hI => by
      obtain ⟨rfl, ⟨q2, q3, q4, q5, q6, q7, q8, rfl⟩, hno⟩ := hI
      obtain ⟨rfl, hlt⟩ := rng_at ht
      rw [Nat.zero_add] at hno ⊢
      refine ⟨sl9 log bd (some (.int (t : Int))) q3 q4 q5 q6 q7 q8, rfl, ?_⟩
      have s1 : ev T (F (k + 3)) (.bin .Add (.var 2) (.int 1)) (sl9 log bd (some (.int (t : Int))) q3 q4 q5 q6 q7 q8) M' = .ok (.int ((t : Int) + 1)) M' := by
        unfold sl9
        simp
      have hr := rngIt0 (n := t + 1) (by omega)
      rw [show ((t + 1 : Nat) : Int) = (t : Int) + 1 by omega] at hr
      have s5 : exs T (F (k + 3)) lp1 (sl9 log bd (some (.int (t : Int))) q3 q4 q5 q6 q7 q8) M' = (forR [] (asg (.name 3)) (exs T (F (k + 3)) lp2) ((List.range (t + 1)).map fun j : Nat => PV.int (j : Int)) (sl9 log bd (some (.int (t : Int))) q3 q4 q5 q6 q7 q8) M').seq (exs T (F (k + 3)) .nil) := by
        unfold lp1
        rw [exs_cons, ex_for, evI_rng1, s1, bind_ok, rng1K_int, hr, ofO_some, ofR_ok]
      rw [s5]
      rcases e_lpF2 k log bd ok t hlt q3 q4 q5 q6 q7 q8 M' with ⟨r3, r4, r5, r6, r7, r8, e, h⟩ | ⟨f, i, e, h1, h2⟩
      · rw [e, seq_nx, exs_nil]
        refine .inl ⟨_, _, .inl rfl, rfl, ⟨_, _, _, _, _, _, _, rfl⟩, fun l' f' i' hf' => ?_⟩
        by_cases q : l' = t
        · subst q; exact h f' i'
        · exact hno l' f' i' (by omega)
      · rw [e, seq_ret]
        exact .inr ⟨_, _, rfl, rfl, f, i, rfl, h1, hno, h2⟩)
  have s0 : F (k + 4) 48 [logV log, bdV bd] M = runK M.length ((forR [] (asg (.name 2)) (exs T (F (k + 3)) lp1) ((List.range log.length).map fun j : Nat => PV.int (j : Int)) (sl9 log bd none none none none none none none) M).seq (exs T (F (k + 3)) (.cons (.ret .non) .nil))) := by
    have s1 : ev T (F (k + 3)) (.var 0) (sl9 log bd none none none none none none none) M = .ok (logV log) M := rfl
    have hr := rngIt0 (n := log.length) (by omega)
    rw [F_run (n := 7) rfl rfl rfl]
    show runK M.length (exs T (F (k + 3)) (.cons (.forS (.name 2) (.rng1 (.callB .len (.cons (.var 0) .nil))) lp1) (.cons (.ret .non) .nil)) (sl9 log bd none none none none none none none) M) = _
    rw [exs_cons, ex_for, evI_rng1, ev_callB, evs_cons, s1, bind_ok, evs_nil, bind_ok, bind_ok, len_log, ofO_some, bind_ok, rng1K_int, hr, ofO_some, ofR_ok]
  rw [s0]
  rcases key with ⟨sp', M', e, rfl, _, h⟩ | ⟨j, p, M', e, _, _, rfl, f, i, rfl, h1, h2, h3⟩
  · rw [e, seq_nx, exs_cons, ex_ret, ev_non, ofR_ok, seq_ret, runK_ret, gcM_self]
    refine ⟨none, rfl, fun l f i hP => h l f i ?_ hP⟩
    obtain ⟨p, hp, hb⟩ := hP
    have := hb.2.1
    simpa [col] using this
  · rw [e, seq_ret, runK_ret, gcM_self]
    refine ⟨some (j, f, i), rfl, h1, fun l' f' i' hP => ?_⟩
    rw [tri_lt]
    by_cases q : l' < j
    · exact absurd hP (h2 l' f' i' q)
    · by_cases q2 : l' = j
      · subst q2
        have := h3 f' i' hP
        omega
      · omega
end My
set_option maxHeartbeats 4000000
namespace My
open PySem DI
/-! ### all_turns -/
def zipI (g : Int → Int → Int) (L C : List Int) : List Int := (L.zip C).map fun p => g p.1 p.2
theorem comp_zip {Γ : Fns} {sp : Sl} {v1 v2 : Nat} {elt : CE} (g : Int → Int → Int) (L C : List Int) (M : Store) (h1 : v1 < sp.length) (h2 : v2 < sp.length) (hne : v1 ≠ v2)
    (he : ∀ x y sp', x ∈ L → y ∈ C → sp'[v1]? = some (some (.int x)) → sp'[v2]? = some (some (.int y)) → ev T Γ elt sp' M = .ok (.int (g x y)) M) :
    compR [] (stepC (.tup [.name v1, .name v2]) [v1, v2] (evC T Γ none) (ev T Γ elt) sp) (zipL (L.map .int) (C.map .int)) M = .ok ((zipI g L C).map .int) M := by
  rw [zipLA]
  unfold zipI
  rw [List.map_map]
  refine compR_mapA (fun p : Int × Int => PV.tup [.int p.1, .int p.2]) _ fun p hp => ?_
  have l1 : (wipeP sp [v1, v2]).length = sp.length := by simp [wipeP]
  have hx : p.1 ∈ L := (List.of_mem_zip (show (p.1, p.2) ∈ L.zip C from hp)).1
  have hy : p.2 ∈ C := (List.of_mem_zip (show (p.1, p.2) ∈ L.zip C from hp)).2
  have e := he p.1 p.2 ((((wipeP sp [v1, v2]).set v1 (some (.int p.1)))).set v2 (some (.int p.2))) hx hy (by
    rw [List.getElem?_set_ne (Ne.symm hne), List.getElem?_set_self (by rw [l1]; exact h1)]) (by
    rw [List.getElem?_set_self (by rw [List.length_set, l1]; exact h2)])
  simp only [stepC, asg, asgs, l1, h1, h2, if_true, List.length_set, evC_none]
  rw [e, bind_ok]
  rfl
theorem el_add {Γ : Fns} {v1 v2 : Nat} {x y : Int} {sp' : Sl} {M : Store} (g1 : sp'[v1]? = some (some (.int x))) (g2 : sp'[v2]? = some (some (.int y))) : ev T Γ (.bin .Add (.var v1) (.var v2)) sp' M = .ok (.int (x + y)) M := by
  rw [ev_bin, ev_var, g1, varK_some, bind_ok, ev_var, g2, varK_some, bind_ok, bAdd, ofO_some]
theorem el_sub {Γ : Fns} {v1 v2 : Nat} {x y : Int} {sp' : Sl} {M : Store} (g1 : sp'[v1]? = some (some (.int x))) (g2 : sp'[v2]? = some (some (.int y))) : ev T Γ (.bin .Sub (.var v1) (.var v2)) sp' M = .ok (.int (x - y)) M := by
  rw [ev_bin, ev_var, g1, varK_some, bind_ok, ev_var, g2, varK_some, bind_ok, bSub, ofO_some]
theorem el_mul {Γ : Fns} {v1 v2 : Nat} {x y : Int} {sp' : Sl} {M : Store} (h : mulOk x y = true) (g1 : sp'[v1]? = some (some (.int x))) (g2 : sp'[v2]? = some (some (.int y))) : ev T Γ (.bin .Mult (.var v1) (.var v2)) sp' M = .ok (.int (x * y)) M := by
  rw [ev_bin, ev_var, g1, varK_some, bind_ok, ev_var, g2, varK_some, bind_ok, bMul h, ofO_some]
theorem el_min {Γ : Fns} {v1 v2 : Nat} {x y : Int} {sp' : Sl} {M : Store} (g1 : sp'[v1]? = some (some (.int x))) (g2 : sp'[v2]? = some (some (.int y))) : ev T Γ (.callB .min (.cons (.var v1) (.cons (.var v2) .nil))) sp' M = .ok (.int (if y < x then y else x)) M := by
  rw [ev_callB, evs_cons, ev_var, g1, varK_some, bind_ok, evs_cons, ev_var, g2, varK_some, bind_ok, evs_nil, bind_ok, bind_ok, bind_ok, biMin2, ofO_some]
theorem el_max0 {Γ : Fns} {v1 v2 : Nat} {x y : Int} {sp' : Sl} {M : Store} (g1 : sp'[v1]? = some (some (.int x))) (g2 : sp'[v2]? = some (some (.int y))) : ev T Γ (.callB .max (.cons (.int 0) (.cons (.bin .Sub (.var v1) (.var v2)) .nil))) sp' M = .ok (.int (if 0 < x - y then x - y else 0)) M := by
  rw [ev_callB, evs_cons, ev_int, bind_ok, evs_cons, el_sub g1 g2, bind_ok, evs_nil, bind_ok, bind_ok, bind_ok, biMax2, ofO_some]
def gMin (x y : Int) : Int := if y < x then y else x
def gMax0 (x y : Int) : Int := if 0 < x - y then x - y else 0
theorem sub_min (x y : Int) : x - gMin x y = gMax0 x y := by
  unfold gMin gMax0
  split <;> split <;> omega
theorem zip_next : ∀ (L s : List Int), zipI (fun x y => x - y) L (zipI gMin L s) = zipI gMax0 L s
  | [], _ => rfl
  | x :: L, [] => by simp [zipI]
  | x :: L, y :: s => by
    have h := zip_next L s
    unfold zipI at *
    simp only [List.zip_cons_cons, List.map_cons]
    rw [h, sub_min]
/-- services: which weights serve each stream -/
def svV (sv : List (List Int)) : PV := .tup (sv.map fun s => .tup (s.map .int))
def fullOf (L : List Int) (t : List Int × Nat) : List Int := zipI (fun x y => x + y) L t.1
def nextOf (sv : List (List Int)) (L : List Int) (t : List Int × Nat) : List Int := zipI gMax0 (fullOf L t) (sv.getD t.2 [])
def linesAt (m : Nat) (sv : List (List Int)) (log : List (List Int × Nat)) : Nat → List Int
  | 0 => List.replicate m 0
  | j + 1 => nextOf sv (linesAt m sv log j) (log.getD j ([], 0))
def turnAt (m : Nat) (sv : List (List Int)) (log : List (List Int × Nat)) (j : Nat) : PV :=
  .tup [.tup ((fullOf (linesAt m sv log j) (log.getD j ([], 0))).map .int), .tup ((zipI gMin (fullOf (linesAt m sv log j) (log.getD j ([], 0))) (sv.getD (log.getD j ([], 0)).2 [])).map .int), .tup ((linesAt m sv log (j + 1)).map .int)]
def slT (st : List PV) (sv : List (List Int)) (log : List (List Int × Nat)) (L : List Int) (n : Nat) (p5 p6 p7 p8 p9 p10 p11 p12 : Option PV) : Sl := [some (.tup st), some (svV sv), some (logV log), some (.lst (L.map .int)), some (.ref n), p5, p6, p7, p8, p9, p10, p11, p12]
def atBody : CSs := (.cons (.asgC 7 [("line", 9), ("come", 10)] (.tup [(.name 9), (.name 10)]) (.zip (.var 3) (.var 5)) none (.bin .Add (.var 9) (.var 10))) (.cons (.asgC 8 [("line", 9), ("serve", 11)] (.tup [(.name 9), (.name 11)]) (.zip (.var 7) (.idx (.var 1) (.var 6))) none (.callB .min (.cons (.var 9) (.cons (.var 11) .nil)))) (.cons (.asgC 3 [("line", 9), ("went", 12)] (.tup [(.name 9), (.name 12)]) (.zip (.var 7) (.var 8)) none (.bin .Sub (.var 9) (.var 12))) (.cons (.expr (.meth .append (.var 4) (.cons (.tup (.cons (.callB .tuple (.cons (.var 7) .nil)) (.cons (.callB .tuple (.cons (.var 8) .nil)) (.cons (.callB .tuple (.cons (.var 3) .nil)) .nil)))) .nil))) .nil))))
theorem sv_at {M : Store} {sv : List (List Int)} {n : Nat} (h : n < sv.length) : idxP M (svV sv) (.int (n : Int)) = some (.tup ((sv.getD n []).map .int)) := by
  unfold svV
  refine idx_get ?_
  rw [List.getElem?_map, List.getElem?_eq_getElem h, List.getD_eq_getElem?_getD, List.getElem?_eq_getElem h]
  rfl
theorem e_at (k : Nat) (st : List PV) (sv : List (List Int)) (log : List (List Int × Nat)) (L : List Int) (n : Nat) (t : List Int × Nat) (ht : t.2 < sv.length) (xs : List PV) (hxl : xs.length < 1000) (p7 p8 p9 p10 p11 p12 : Option PV) (M : Store) (hx : lstAt M n = some xs) :
    ∃ q7 q8 q9 q10 q11 q12, exs T (F k) atBody (slT st sv log L n (some (.tup (t.1.map .int))) (some (.int (t.2 : Int))) p7 p8 p9 p10 p11 p12) M =
      .nx (slT st sv log (nextOf sv L t) n (some (.tup (t.1.map .int))) (some (.int (t.2 : Int))) q7 q8 q9 q10 q11 q12) (M.set n (some (.lst (xs ++ [.tup [.tup ((fullOf L t).map .int), .tup ((zipI gMin (fullOf L t) (sv.getD t.2 [])).map .int), .tup ((nextOf sv L t).map .int)]])))) := by
  have hz : 1000 ≤ sizeLine := by decide
  have h3 : 3 ≤ sizeLine := by decide
  have e1 := comp_zip (Γ := F k) (sp := slT st sv log L n (some (.tup (t.1.map .int))) (some (.int (t.2 : Int))) p7 p8 p9 p10 p11 p12) (v1 := 9) (v2 := 10) (fun x y => x + y) L t.1 M (by simp [slT]) (by simp [slT]) (by omega) (fun x y sp' _ _ g1 g2 => el_add g1 g2)
  have e2 := comp_zip (Γ := F k) (sp := slT st sv log L n (some (.tup (t.1.map .int))) (some (.int (t.2 : Int))) (some (.lst ((fullOf L t).map .int))) p8 p9 p10 p11 p12) (v1 := 9) (v2 := 11) gMin (fullOf L t) (sv.getD t.2 []) M (by simp [slT]) (by simp [slT]) (by omega) (fun x y sp' _ _ g1 g2 => el_min g1 g2)
  have e3 := comp_zip (Γ := F k) (sp := slT st sv log L n (some (.tup (t.1.map .int))) (some (.int (t.2 : Int))) (some (.lst ((fullOf L t).map .int))) (some (.lst ((zipI gMin (fullOf L t) (sv.getD t.2 [])).map .int))) p9 p10 p11 p12) (v1 := 9) (v2 := 12) (fun x y => x - y) (fullOf L t) (zipI gMin (fullOf L t) (sv.getD t.2 [])) M (by simp [slT]) (by simp [slT]) (by omega) (fun x y sp' _ _ g1 g2 => el_sub g1 g2)
  rw [zip_next] at e3
  have ha := fun q => bmAppend (p := q) hx (by omega)
  have htm := mAppend hx
  have hsv := sv_at (M := M) ht
  refine ⟨some (.lst ((fullOf L t).map .int)), some (.lst ((zipI gMin (fullOf L t) (sv.getD t.2 [])).map .int)), p9, p10, p11, p12, ?_⟩
  have s1 : ex T (F k) (.asgC 7 [("line", 9), ("come", 10)] (.tup [(.name 9), (.name 10)]) (.zip (.var 3) (.var 5)) none (.bin .Add (.var 9) (.var 10))) (slT st sv log L n (some (.tup (t.1.map .int))) (some (.int (t.2 : Int))) p7 p8 p9 p10 p11 p12) M = .nx (slT st sv log L n (some (.tup (t.1.map .int))) (some (.int (t.2 : Int))) (some (.lst ((fullOf L t).map .int))) p8 p9 p10 p11 p12) M := by
    have v3 : ev T (F k) (.var 3) (slT st sv log L n (some (.tup (t.1.map .int))) (some (.int (t.2 : Int))) p7 p8 p9 p10 p11 p12) M = .ok (.lst (L.map .int)) M := rfl
    have v5 : ev T (F k) (.var 5) (slT st sv log L n (some (.tup (t.1.map .int))) (some (.int (t.2 : Int))) p7 p8 p9 p10 p11 p12) M = .ok (.tup (t.1.map .int)) M := rfl
    rw [ex_asgC, ev_comp, evI_zip, v3, bind_ok, v5, bind_ok, seqL, seqT, ziK_some, bind_ok]
    show SRes.ofR ((compR [] (stepC _ [9, 10] _ _ _) (zipL (L.map .int) (t.1.map .int)) M).bind _) _ _ = _
    rw [e1, bind_ok, ofR_ok, asgK_name, if_pos (by simp [slT])]
    rfl
  have s2 : ex T (F k) (.asgC 8 [("line", 9), ("serve", 11)] (.tup [(.name 9), (.name 11)]) (.zip (.var 7) (.idx (.var 1) (.var 6))) none (.callB .min (.cons (.var 9) (.cons (.var 11) .nil)))) (slT st sv log L n (some (.tup (t.1.map .int))) (some (.int (t.2 : Int))) (some (.lst ((fullOf L t).map .int))) p8 p9 p10 p11 p12) M = .nx (slT st sv log L n (some (.tup (t.1.map .int))) (some (.int (t.2 : Int))) (some (.lst ((fullOf L t).map .int))) (some (.lst ((zipI gMin (fullOf L t) (sv.getD t.2 [])).map .int))) p9 p10 p11 p12) M := by
    have v7 : ev T (F k) (.var 7) (slT st sv log L n (some (.tup (t.1.map .int))) (some (.int (t.2 : Int))) (some (.lst ((fullOf L t).map .int))) p8 p9 p10 p11 p12) M = .ok (.lst ((fullOf L t).map .int)) M := rfl
    have v1 : ev T (F k) (.var 1) (slT st sv log L n (some (.tup (t.1.map .int))) (some (.int (t.2 : Int))) (some (.lst ((fullOf L t).map .int))) p8 p9 p10 p11 p12) M = .ok (svV sv) M := rfl
    have v6 : ev T (F k) (.var 6) (slT st sv log L n (some (.tup (t.1.map .int))) (some (.int (t.2 : Int))) (some (.lst ((fullOf L t).map .int))) p8 p9 p10 p11 p12) M = .ok (.int (t.2 : Int)) M := rfl
    rw [ex_asgC, ev_comp, evI_zip, v7, bind_ok, ev_idx, v1, bind_ok, v6, bind_ok, hsv, ofO_some, bind_ok, seqL, seqT, ziK_some, bind_ok]
    show SRes.ofR ((compR [] (stepC _ [9, 11] _ _ _) (zipL ((fullOf L t).map .int) ((sv.getD t.2 []).map .int)) M).bind _) _ _ = _
    rw [e2, bind_ok, ofR_ok, asgK_name, if_pos (by simp [slT])]
    rfl
  have s3 : ex T (F k) (.asgC 3 [("line", 9), ("went", 12)] (.tup [(.name 9), (.name 12)]) (.zip (.var 7) (.var 8)) none (.bin .Sub (.var 9) (.var 12))) (slT st sv log L n (some (.tup (t.1.map .int))) (some (.int (t.2 : Int))) (some (.lst ((fullOf L t).map .int))) (some (.lst ((zipI gMin (fullOf L t) (sv.getD t.2 [])).map .int))) p9 p10 p11 p12) M = .nx (slT st sv log (nextOf sv L t) n (some (.tup (t.1.map .int))) (some (.int (t.2 : Int))) (some (.lst ((fullOf L t).map .int))) (some (.lst ((zipI gMin (fullOf L t) (sv.getD t.2 [])).map .int))) p9 p10 p11 p12) M := by
    have v7 : ev T (F k) (.var 7) (slT st sv log L n (some (.tup (t.1.map .int))) (some (.int (t.2 : Int))) (some (.lst ((fullOf L t).map .int))) (some (.lst ((zipI gMin (fullOf L t) (sv.getD t.2 [])).map .int))) p9 p10 p11 p12) M = .ok (.lst ((fullOf L t).map .int)) M := rfl
    have v8 : ev T (F k) (.var 8) (slT st sv log L n (some (.tup (t.1.map .int))) (some (.int (t.2 : Int))) (some (.lst ((fullOf L t).map .int))) (some (.lst ((zipI gMin (fullOf L t) (sv.getD t.2 [])).map .int))) p9 p10 p11 p12) M = .ok (.lst ((zipI gMin (fullOf L t) (sv.getD t.2 [])).map .int)) M := rfl
    rw [ex_asgC, ev_comp, evI_zip, v7, bind_ok, v8, bind_ok, seqL, seqL, ziK_some, bind_ok]
    show SRes.ofR ((compR [] (stepC _ [9, 12] _ _ _) (zipL ((fullOf L t).map .int) ((zipI gMin (fullOf L t) (sv.getD t.2 [])).map .int)) M).bind _) _ _ = _
    rw [e3, bind_ok, ofR_ok, asgK_name, if_pos (by simp [slT])]
    rfl
  unfold atBody
  rw [exs_cons, s1, seq_nx, exs_cons, s2, seq_nx, exs_cons, s3, seq_nx, exs_cons]
  unfold slT nextOf
  generalize zipI gMax0 (fullOf L t) (sv.getD t.2 []) = y1 at *
  generalize zipI gMin (fullOf L t) (sv.getD t.2 []) = y2 at *
  generalize fullOf L t = y3 at *
  generalize svV sv = y4 at *
  generalize logV log = y5 at *
  simp [htm, h3, ha]
end My
set_option maxHeartbeats 4000000
namespace My
open PySem DI
theorem rep_zero (m : Nat) : repP [.int 0] (m : Int) = (List.replicate m (0 : Int)).map .int := by
  unfold repP
  rw [Int.toNat_natCast]
  induction m with
  | zero => rfl
  | succ m ih => rw [List.replicate_succ, List.flatten_cons, ih, List.replicate_succ, List.map_cons]; rfl
theorem rep_ok {p : PV} {m : Nat} (h : m < 1000) : repOk [p] (m : Int) = true := by
  simp only [repOk, Bool.and_eq_true, decide_eq_true_eq, List.length_cons, List.length_nil]
  omega
theorem okRefs_ints (n : Nat) : ∀ l : List Int, okRefs n (l.map .int) = true
  | [] => rfl
  | x :: l => by simp [okRefs, okRef, okRefs_ints n l]
theorem okRef_turn (n m : Nat) (sv : List (List Int)) (log : List (List Int × Nat)) (j : Nat) : okRef n (turnAt m sv log j) = true := by
  simp [turnAt, okRef, okRefs, okRefs_ints]
theorem log_at {log : List (List Int × Nat)} {j : Nat} {t : List Int × Nat} (h : log[j]? = some t) : log.getD j ([], 0) = t := by
  rw [List.getD_eq_getElem?_getD, h]
  rfl
theorem f_all_turns (k : Nat) (st : List PV) (sv : List (List Int)) (log : List (List Int × Nat)) (hs : st.length < 1000) (hl : log.length < 999) (hn : ∀ t ∈ log, t.2 < sv.length) (M : Store) (hM : okS M) :
    F (k + 1) 20 [.tup st, svV sv, logV log] M = .ok (.lst ((List.range log.length).map (turnAt st.length sv log))) M := by
  obtain ⟨sp', M', e, hI⟩ := forR_inv (b := asg (.tup [.name 5, .name 6])) (body := exs T (F k) atBody) turnV
    (fun i sp M' => M' = M ++ [some (.lst ((List.range i).map (turnAt st.length sv log)))] ∧ ∃ p5 p6 p7 p8 p9 p10 p11 p12, sp = slT st sv log (linesAt st.length sv log i) M.length p5 p6 p7 p8 p9 p10 p11 p12)
    (items := log) (i := 0) (sp := slT st sv log (List.replicate st.length 0) M.length none none none none none none none none) (M := M ++ [some (.lst [])])
    ⟨rfl, _, _, _, _, _, _, _, _, rfl⟩
    (fun j t sp M' ht hI => by
      obtain ⟨rfl, p5, p6, p7, p8, p9, p10, p11, p12, rfl⟩ := hI
      rw [Nat.zero_add]
      have hm : t ∈ log := List.mem_of_getElem? ht
      have hlt : j < log.length := (List.getElem?_eq_some_iff.mp ht).1
      obtain ⟨q7, q8, q9, q10, q11, q12, e⟩ := e_at k st sv log (linesAt st.length sv log j) M.length t (hn t hm) ((List.range j).map (turnAt st.length sv log)) (by simp; omega) p7 p8 p9 p10 p11 p12 (M ++ [some (.lst ((List.range j).map (turnAt st.length sv log)))]) lst_last
      refine ⟨slT st sv log (linesAt st.length sv log j) M.length (some (.tup (t.1.map .int))) (some (.int (t.2 : Int))) p7 p8 p9 p10 p11 p12, rfl, _, _, .inl e, ?_, some (.tup (t.1.map .int)), some (.int (t.2 : Int)), q7, q8, q9, q10, q11, q12, ?_⟩
      · rw [set_last, List.range_succ, List.map_append]
        congr 5
        show [_] = [turnAt st.length sv log j]
        unfold turnAt
        rw [log_at ht]
        show _ = [PV.tup [_, _, PV.tup ((nextOf sv (linesAt st.length sv log j) (log.getD j ([], 0))).map .int)]]
        rw [log_at ht]
      · show _ = slT st sv log (nextOf sv (linesAt st.length sv log j) (log.getD j ([], 0))) M.length _ _ _ _ _ _ _ _
        rw [log_at ht])
  obtain ⟨rfl, p5, p6, p7, p8, p9, p10, p11, p12, rfl⟩ := hI
  rw [Nat.zero_add] at e
  have hz : ([] : List PV).length ≤ sizeLine := Nat.zero_le _
  have hrm : binP .Mult (M ++ [some (.lst [])]) (.lst [.int 0]) (.int (st.length : Int)) = some (.lst ((List.replicate st.length (0 : Int)).map .int)) := by
    rw [bMulL (rep_ok hs), rep_zero]
  have hrm' : binP .Mult M (.lst [.int 0]) (.int (st.length : Int)) = some (.lst ((List.replicate st.length (0 : Int)).map .int)) := by
    rw [bMulL (rep_ok hs), rep_zero]
  have s1 : ex T (F k) (.par [3, 4] (.cons (.bin .Mult (.lst (.cons (.int 0) .nil)) (.callB .len (.cons (.var 0) .nil))) (.cons (.lstR .nil) .nil))) [some (.tup st), some (svV sv), some (logV log), none, none, none, none, none, none, none, none, none, none] M = .nx (slT st sv log (List.replicate st.length 0) M.length none none none none none none none none) (M ++ [some (.lst [])]) := by
    have v0 : ev T (F k) (.var 0) [some (.tup st), some (svV sv), some (logV log), none, none, none, none, none, none, none, none, none, none] M = .ok (.tup st) M := rfl
    rw [ex_par, evs_cons, ev_bin, ev_lst, evs_cons, ev_int, bind_ok, evs_nil, bind_ok, bind_ok, if_pos (by exact (show 1 ≤ sizeLine from by decide)), bind_ok, ev_callB, evs_cons, v0, bind_ok, evs_nil, bind_ok, bind_ok, biLenT, ofO_some, bind_ok, hrm', ofO_some, bind_ok, evs_cons, ev_lstR, evs_nil, bind_ok, if_pos hz, bind_ok, evs_nil, bind_ok, bind_ok, ofR_ok, parK_two, if_pos (by simp)]
    rfl
  have v2 : ev T (F k) (.var 2) (slT st sv log (List.replicate st.length 0) M.length none none none none none none none none) (M ++ [some (.lst [])]) = .ok (logV log) (M ++ [some (.lst [])]) := rfl
  have hgc : gcM M.length (M ++ [none]) [.lst ((List.range log.length).map (turnAt st.length sv log))] = M := gcM_app hM (by
    simp [okRefs, okRef]
    exact okRefs_map _ _ (fun j => okRef_turn _ _ _ _ j) _)
  have hfz := ev_frz (T := T) (Γ := F k) (i := 4) (sp := slT st sv log (linesAt st.length sv log log.length) M.length p5 p6 p7 p8 p9 p10 p11 p12) (M := M ++ [some (.lst ((List.range log.length).map (turnAt st.length sv log)))]) (n := M.length) rfl lst_last
  rw [F_run (n := 10) rfl rfl rfl]
  show runK M.length (exs T (F k) (.cons (.par [3, 4] (.cons (.bin .Mult (.lst (.cons (.int 0) .nil)) (.callB .len (.cons (.var 0) .nil))) (.cons (.lstR .nil) .nil))) (.cons (.forS (.tup [(.name 5), (.name 6)]) (.seq (.var 2)) atBody) (.cons (.ret (.frz 4)) .nil))) [some (.tup st), some (svV sv), some (logV log), none, none, none, none, none, none, none, none, none, none] M) = _
  rw [exs_cons, s1, seq_nx, exs_cons, ex_for, evI_seq, v2, bind_ok, seq_log, ofO_some, ofR_ok]
  show runK M.length ((forR [] _ _ (log.map turnV) _ _).seq _) = _
  rw [e, seq_nx, exs_cons, ex_ret, hfz, ofR_ok, seq_ret, runK_ret, set_last, hgc]
end My
set_option maxHeartbeats 4000000
namespace My
open PySem DI
/-! ### weights -/
def dotI (L s : List Int) : Int := (zipI (fun x y => x * y) L s).sum
def wts (L : List Int) (sv : List (List Int)) : List Int := sv.map (dotI L)
def SvOk (sv : List (List Int)) : Prop := sv ≠ [] ∧ ∀ s ∈ sv, ∀ y ∈ s, 0 ≤ y ∧ y ≤ 1000
theorem f_weight (k : Nat) (L s : List Int) (h : ∀ y ∈ s, 0 ≤ y ∧ y ≤ 1000) (M : Store) : F (k + 1) 30 [.tup (L.map .int), .tup (s.map .int)] M = .ok (.int (dotI L s)) M := by
  have e1 := comp_zip (Γ := F k) (sp := [some (.tup (L.map .int)), some (.tup (s.map .int)), none, none]) (v1 := 2) (v2 := 3) (fun x y => x * y) L s M (by simp) (by simp) (by omega) (fun x y sp' _ hy g1 g2 => el_mul (mulOk_r (smI_of (by have := (h y hy).1; omega) (by have := (h y hy).2; omega))) g1 g2)
  have e2 := biSum (M := M) (zipI (fun x y => x * y) L s)
  unfold dotI
  generalize zipI (fun x y => x * y) L s = w at *
  generalize L.map PV.int = y1 at *
  generalize s.map PV.int = y2 at *
  generalize w.map PV.int = y3 at *
  rw [F_run (n := 2) rfl rfl rfl]
  simp [e1, e2]
theorem max_of {M : Store} {ws : List Int} (h : ws ≠ []) : biP .max M [.lst (ws.map .int)] = some (.int (maxI ws)) := by
  cases ws with
  | nil => exact absurd rfl h
  | cons n l => exact biMaxL
def Off (m : Nat) (sv : List (List Int)) (log : List (List Int × Nat)) (j : Nat) : Prop :=
  ∃ t, log[j]? = some t ∧ (wts (fullOf (linesAt m sv log j) t) sv).getD t.2 0 < maxI (wts (fullOf (linesAt m sv log j) t) sv)
def opV1 : Option Nat → PV
  | none => .non
  | some j => .int (j : Int)
def Least1 (P : Nat → Prop) : Option Nat → Prop
  | none => ∀ j, ¬ P j
  | some j => P j ∧ ∀ j', j' < j → ¬ P j'
theorem Least1.uniq {P : Nat → Prop} {o o' : Option Nat} (h : Least1 P o) (h' : Least1 P o') : o = o' := by
  cases o with
  | none =>
    cases o' with
    | none => rfl
    | some t => exact absurd h'.1 (h t)
  | some t =>
    cases o' with
    | none => exact absurd h.1 (h' t)
    | some t' =>
      have : t = t' := by
        rcases Nat.lt_trichotomy t t' with q | q | q
        · exact absurd h.1 (h'.2 t q)
        · exact q
        · exact absurd h'.1 (h.2 t' q)
      rw [this]
def slO (st : List PV) (sv : List (List Int)) (log : List (List Int × Nat)) (ts : List PV) (p4 p5 p6 p7 p8 p9 : Option PV) : Sl := [some (.tup st), some (svV sv), some (logV log), some (.lst ts), p4, p5, p6, p7, p8, p9]
def owComp : CS := (.asgC 5 [("service", 9)] (.name 9) (.seq (.var 1)) none (.call 30 (.cons (.var 6) (.cons (.var 9) .nil))))
def owTest : CE := (.cmp .Lt (.idx (.var 5) (.idx (.idx (.var 2) (.var 4)) (.int 1))) (.callB .max (.cons (.var 5) .nil)))
def owBody : CSs := (.cons owComp (.cons (.ite owTest (.cons (.ret (.var 4)) .nil) .nil) .nil))
theorem wts_at {M : Store} {ws : List Int} {n : Nat} (h : n < ws.length) : idxP M (.lst (ws.map .int)) (.int (n : Int)) = some (.int (ws.getD n 0)) := idx_getL (getD_int h)
theorem log_idx {M : Store} {log : List (List Int × Nat)} {j : Nat} {t : List Int × Nat} (h : log[j]? = some t) : idxP M (logV log) (.int (j : Int)) = some (turnV t) := by
  unfold logV
  refine idx_get ?_
  rw [List.getElem?_map, h]
  rfl
theorem e_ow (k : Nat) (st : List PV) (sv : List (List Int)) (log : List (List Int × Nat)) (ts : List PV) (hsv : SvOk sv) (j : Nat) (t : List Int × Nat) (ht : log[j]? = some t) (hn : t.2 < sv.length) (L : List Int) (p5 p7 p8 p9 : Option PV) (M : Store) :
    ((wts L sv).getD t.2 0 < maxI (wts L sv) ∧ exs T (F (k + 1)) owBody (slO st sv log ts (some (.int (j : Int))) p5 (some (.tup (L.map .int))) p7 p8 p9) M = .ret (.int (j : Int)) M) ∨
    (¬ (wts L sv).getD t.2 0 < maxI (wts L sv) ∧ ∃ q5, exs T (F (k + 1)) owBody (slO st sv log ts (some (.int (j : Int))) p5 (some (.tup (L.map .int))) p7 p8 p9) M = .nx (slO st sv log ts (some (.int (j : Int))) q5 (some (.tup (L.map .int))) p7 p8 p9) M) := by
  have e1 := compR_mapA (step := stepC (.name 9) [9] (evC T (F (k + 1)) none) (ev T (F (k + 1)) (.call 30 (.cons (.var 6) (.cons (.var 9) .nil)))) (slO st sv log ts (some (.int (j : Int))) p5 (some (.tup (L.map .int))) p7 p8 p9)) (M := M) (fun s : List Int => PV.tup (s.map .int)) (fun s => PV.int (dotI L s)) (items := sv) (fun s hs => by
    have e := f_weight k L s (hsv.2 s hs) M
    unfold slO
    generalize dotI L s = y1 at *
    generalize svV sv = y2 at *
    generalize logV log = y3 at *
    generalize L.map PV.int = y4 at *
    generalize s.map PV.int = y5 at *
    simp [stepC, asg, wipeP, e])
  have e1' : sv.map (fun s => PV.int (dotI L s)) = (wts L sv).map .int := by
    unfold wts
    rw [List.map_map]
    rfl
  rw [e1'] at e1
  have hw : wts L sv ≠ [] := by
    unfold wts
    simpa using hsv.1
  have hwl : t.2 < (wts L sv).length := by
    unfold wts
    simpa using hn
  have e2 := wts_at (M := M) hwl
  have e3 := max_of (M := M) hw
  have e4 := log_idx (M := M) ht
  have e5 : idxP M (turnV t) (.int 1) = some (.int (t.2 : Int)) := idx1
  generalize wts L sv = ws at *
  have s1 : ex T (F (k + 1)) owComp (slO st sv log ts (some (.int (j : Int))) p5 (some (.tup (L.map .int))) p7 p8 p9) M = .nx (slO st sv log ts (some (.int (j : Int))) (some (.lst (ws.map .int))) (some (.tup (L.map .int))) p7 p8 p9) M := by
    have v1 : ev T (F (k + 1)) (.var 1) (slO st sv log ts (some (.int (j : Int))) p5 (some (.tup (L.map .int))) p7 p8 p9) M = .ok (svV sv) M := rfl
    unfold owComp
    rw [ex_asgC, ev_comp, evI_seq, v1, bind_ok]
    show SRes.ofR ((Res.ofO (seqIt M (.tup (sv.map fun s => PV.tup (s.map .int)))) M).bind _) _ _ = _
    rw [seqT, ofO_some, bind_ok]
    show SRes.ofR ((compR [] (stepC _ [9] _ _ _) (sv.map fun s => PV.tup (s.map .int)) M).bind _) _ _ = _
    rw [e1, bind_ok, ofR_ok, asgK_name, if_pos (by simp [slO])]
    rfl
  have s2 : ev T (F (k + 1)) owTest (slO st sv log ts (some (.int (j : Int))) (some (.lst (ws.map .int))) (some (.tup (L.map .int))) p7 p8 p9) M = .ok (.bl (decide (ws.getD t.2 0 < maxI ws))) M := by
    unfold owTest slO
    generalize ws.map PV.int = y1 at *
    generalize svV sv = y2 at *
    generalize logV log = y3 at *
    generalize L.map PV.int = y4 at *
    generalize turnV t = y5 at *
    generalize ws.getD t.2 0 = y6 at *
    generalize maxI ws = y7 at *
    generalize (t.2 : Int) = y8 at *
    generalize (j : Int) = y9 at *
    simp [e2, e3, e4, e5]
  have v4 : ev T (F (k + 1)) (.var 4) (slO st sv log ts (some (.int (j : Int))) (some (.lst (ws.map .int))) (some (.tup (L.map .int))) p7 p8 p9) M = .ok (.int (j : Int)) M := rfl
  unfold owBody
  rw [exs_cons, s1, seq_nx, exs_cons, ex_ite, s2, evTr_bl, ofR_ok]
  by_cases h : ws.getD t.2 0 < maxI ws
  · rw [if_pos (decide_eq_true h), exs_cons, ex_ret, v4, ofR_ok, seq_ret, seq_ret]
    exact .inl ⟨h, rfl⟩
  · rw [if_neg (by simpa using h), exs_nil, seq_nx, exs_nil]
    exact .inr ⟨h, _, rfl⟩
theorem f_off (k : Nat) (st : List PV) (sv : List (List Int)) (log : List (List Int × Nat)) (hs : st.length < 1000) (hl : log.length < 999) (hn : ∀ t ∈ log, t.2 < sv.length) (hsv : SvOk sv) (M : Store) (hM : okS M) :
    ∃ o, F (k + 2) 31 [.tup st, svV sv, logV log] M = .ok (opV1 o) M ∧ Least1 (Off st.length sv log) o := by
  have ea := f_all_turns k st sv log hs hl hn M hM
  have key := forR_ret (b := asg (.tup [.name 4, .tup [.name 6, .name 7, .name 8]])) (body := exs T (F (k + 1)) owBody) (fun p : Nat × Nat => PV.tup [.int (p.2 : Int), turnAt st.length sv log p.1])
    (fun i sp M' => M' = M ∧ (∃ p4 p5 p6 p7 p8 p9, sp = slO st sv log ((List.range log.length).map (turnAt st.length sv log)) p4 p5 p6 p7 p8 p9) ∧ ∀ j', j' < i → ¬ Off st.length sv log j')
    (fun i p M' => M' = M ∧ p = .int (i : Int) ∧ Off st.length sv log i ∧ ∀ j', j' < i → ¬ Off st.length sv log j')
    (items := (List.range log.length).zipIdx) (i := 0) (sp := slO st sv log ((List.range log.length).map (turnAt st.length sv log)) none none none none none none) (M := M)
    ⟨rfl, ⟨_, _, _, _, _, _, rfl⟩, fun j' h => by omega⟩
    (fun j p sp M' hp hI => by
      obtain ⟨rfl, ⟨p4, p5, p6, p7, p8, p9, rfl⟩, hno⟩ := hI
      obtain ⟨hlt, hpe⟩ := zip_at hp
      rw [List.getElem_range] at hpe
      subst hpe
      rw [Nat.zero_add] at hno ⊢
      have hlt' : j < log.length := by simpa using hlt
      have ht : log[j]? = some log[j] := List.getElem?_eq_getElem hlt'
      have hm : log[j] ∈ log := List.getElem_mem hlt'
      refine ⟨slO st sv log ((List.range log.length).map (turnAt st.length sv log)) (some (.int (j : Int))) p5 (some (.tup ((fullOf (linesAt st.length sv log j) (log.getD j ([], 0))).map .int))) (some (.tup ((zipI gMin (fullOf (linesAt st.length sv log j) (log.getD j ([], 0))) (sv.getD (log.getD j ([], 0)).2 [])).map .int))) (some (.tup ((linesAt st.length sv log (j + 1)).map .int))) p9, rfl, ?_⟩
      rw [log_at ht]
      rcases e_ow k st sv log ((List.range log.length).map (turnAt st.length sv log)) hsv j log[j] ht (hn _ hm) (fullOf (linesAt st.length sv log j) log[j]) p5 (some (.tup ((zipI gMin (fullOf (linesAt st.length sv log j) log[j]) (sv.getD log[j].2 [])).map .int))) (some (.tup ((linesAt st.length sv log (j + 1)).map .int))) p9 M' with ⟨h, e⟩ | ⟨h, q5, e⟩
      · exact .inr ⟨_, _, e, rfl, rfl, ⟨_, ht, h⟩, hno⟩
      · refine .inl ⟨_, _, .inl e, rfl, ⟨_, _, _, _, _, _, rfl⟩, fun j' hj' => ?_⟩
        by_cases q : j' = j
        · subst q
          rintro ⟨t, ht', h2⟩
          rw [ht] at ht'
          cases ht'
          exact h h2
        · exact hno j' (by omega))
  have hen := enumLA (turnAt st.length sv log) (List.range log.length)
  have s1 : ex T (F (k + 1)) (.asg (.name 3) (.call 20 (.cons (.var 0) (.cons (.var 1) (.cons (.var 2) .nil))))) [some (.tup st), some (svV sv), some (logV log), none, none, none, none, none, none, none] M = .nx (slO st sv log ((List.range log.length).map (turnAt st.length sv log)) none none none none none none) M := by
    unfold slO
    generalize (List.range log.length).map (turnAt st.length sv log) = y1 at *
    generalize svV sv = y2 at *
    generalize logV log = y3 at *
    simp [ea]
  have v3 : ev T (F (k + 1)) (.var 3) (slO st sv log ((List.range log.length).map (turnAt st.length sv log)) none none none none none none) M = .ok (.lst ((List.range log.length).map (turnAt st.length sv log))) M := rfl
  have s0 : F (k + 2) 31 [.tup st, svV sv, logV log] M = runK M.length ((forR [] (asg (.tup [.name 4, .tup [.name 6, .name 7, .name 8]])) (exs T (F (k + 1)) owBody) ((List.range log.length).zipIdx.map fun p : Nat × Nat => PV.tup [.int (p.2 : Int), turnAt st.length sv log p.1]) (slO st sv log ((List.range log.length).map (turnAt st.length sv log)) none none none none none none) M).seq (exs T (F (k + 1)) (.cons (.ret .non) .nil))) := by
    rw [F_run (n := 7) rfl rfl rfl]
    show runK M.length (exs T (F (k + 1)) (.cons (.asg (.name 3) (.call 20 (.cons (.var 0) (.cons (.var 1) (.cons (.var 2) .nil))))) (.cons (.forS (.tup [(.name 4), (.tup [(.name 6), (.name 7), (.name 8)])]) (.enum (.var 3)) owBody) (.cons (.ret .non) .nil))) [some (.tup st), some (svV sv), some (logV log), none, none, none, none, none, none, none] M) = _
    rw [exs_cons, s1, seq_nx, exs_cons, ex_for, evI_enum, v3, bind_ok, seqL, enK_some, ofR_ok]
    show runK M.length ((forR [] _ _ (enumL ((List.range log.length).map (turnAt st.length sv log))) _ _).seq _) = _
    rw [hen]
  rw [s0]
  rcases key with ⟨sp', M', e, rfl, _, h⟩ | ⟨j, p, M', e, _, _, rfl, rfl, h1, h2⟩
  · rw [e, seq_nx, exs_cons, ex_ret, ev_non, ofR_ok, seq_ret, runK_ret, gcM_self]
    refine ⟨none, rfl, fun j hP => h j ?_ hP⟩
    obtain ⟨t, ht, _⟩ := hP
    have := (List.getElem?_eq_some_iff.mp ht).1
    simpa using this
  · rw [e, seq_ret, runK_ret, gcM_self]
    exact ⟨some j, rfl, h1, h2⟩
end My
set_option maxHeartbeats 4000000
namespace My
open PySem DI
/-! ### _law_off -/
def slF (sv : List (List Int)) (log : List (List Int × Nat)) (m : Nat) (L : List Int) (p4 p5 p6 p7 p8 p9 p10 p11 p12 p13 : Option PV) : Sl := [some (svV sv), some (logV log), some (.int (m : Int)), some (.lst (L.map .int)), p4, p5, p6, p7, p8, p9, p10, p11, p12, p13]
def lfHeap : CS := (.asg (.name 5) (.comp [("lie", 10), ("come", 11)] (.tup [(.name 10), (.name 11)]) (.zip (.var 3) (.var 7)) none (.bin .Add (.var 10) (.var 11))))
def lfDot : CE := (.callB .sum (.cons (.comp [("heap", 12), ("its", 13)] (.tup [(.name 12), (.name 13)]) (.zip (.var 5) (.var 9)) none (.bin .Mult (.var 12) (.var 13))) .nil))
def lfComp : CS := (.asgC 6 [("service", 9)] (.name 9) (.seq (.var 0)) none lfDot)
def lfTest : CE := (.cmp .Lt (.idx (.var 6) (.var 8)) (.callB .max (.cons (.var 6) .nil)))
def lfNext : CS := (.asgC 3 [("heap", 12), ("its", 13)] (.tup [(.name 12), (.name 13)]) (.zip (.var 5) (.idx (.var 0) (.var 8))) none (.callB .max (.cons (.int 0) (.cons (.bin .Sub (.var 12) (.var 13)) .nil))))
def lfBody : CSs := (.cons lfHeap (.cons lfComp (.cons (.ite lfTest (.cons (.ret (.var 4)) .nil) .nil) (.cons lfNext .nil))))
theorem e_lfDot (k : Nat) (sp : Sl) (L s : List Int) (hs : ∀ y ∈ s, 0 ≤ y ∧ y ≤ 1000) (h13 : 13 < sp.length) (g5 : sp[5]? = some (some (.lst (L.map .int)))) (g9 : sp[9]? = some (some (.tup (s.map .int)))) (M : Store) : ev T (F k) lfDot sp M = .ok (.int (dotI L s)) M := by
  have e1 := comp_zip (Γ := F k) (sp := sp) (v1 := 12) (v2 := 13) (fun x y => x * y) L s M (by omega) (by omega) (by omega) (fun x y sp' _ hy g1 g2 => el_mul (mulOk_r (smI_of (by have := (hs y hy).1; omega) (by have := (hs y hy).2; omega))) g1 g2)
  unfold lfDot
  rw [ev_callB, evs_cons, ev_comp, evI_zip, ev_var, g5, varK_some, bind_ok, ev_var, g9, varK_some, bind_ok, seqL, seqT, ziK_some, bind_ok]
  show ((((compR [] (stepC _ [12, 13] _ _ _) (zipL (L.map .int) (s.map .int)) M).bind _).bind _).bind _) = _
  rw [e1, bind_ok, bind_ok, evs_nil, bind_ok, bind_ok, biSum, ofO_some]
  rfl
theorem e_lf (k : Nat) (sv : List (List Int)) (log : List (List Int × Nat)) (m : Nat) (hsv : SvOk sv) (j : Nat) (t : List Int × Nat) (hn : t.2 < sv.length) (L : List Int) (p5 p6 p9 p10 p11 p12 p13 : Option PV) (M : Store) :
    ((wts (fullOf L t) sv).getD t.2 0 < maxI (wts (fullOf L t) sv) ∧ exs T (F k) lfBody (slF sv log m L (some (.int (j : Int))) p5 p6 (some (.tup (t.1.map .int))) (some (.int (t.2 : Int))) p9 p10 p11 p12 p13) M = .ret (.int (j : Int)) M) ∨
    (¬ (wts (fullOf L t) sv).getD t.2 0 < maxI (wts (fullOf L t) sv) ∧ ∃ q5 q6, exs T (F k) lfBody (slF sv log m L (some (.int (j : Int))) p5 p6 (some (.tup (t.1.map .int))) (some (.int (t.2 : Int))) p9 p10 p11 p12 p13) M = .nx (slF sv log m (nextOf sv L t) (some (.int (j : Int))) q5 q6 (some (.tup (t.1.map .int))) (some (.int (t.2 : Int))) p9 p10 p11 p12 p13) M) := by
  have e1 := comp_zip (Γ := F k) (sp := slF sv log m L (some (.int (j : Int))) p5 p6 (some (.tup (t.1.map .int))) (some (.int (t.2 : Int))) p9 p10 p11 p12 p13) (v1 := 10) (v2 := 11) (fun x y => x + y) L t.1 M (by simp [slF]) (by simp [slF]) (by omega) (fun x y sp' _ _ g1 g2 => el_add g1 g2)
  have s1 : ex T (F k) lfHeap (slF sv log m L (some (.int (j : Int))) p5 p6 (some (.tup (t.1.map .int))) (some (.int (t.2 : Int))) p9 p10 p11 p12 p13) M = .nx (slF sv log m L (some (.int (j : Int))) (some (.lst ((fullOf L t).map .int))) p6 (some (.tup (t.1.map .int))) (some (.int (t.2 : Int))) p9 p10 p11 p12 p13) M := by
    have v3 : ev T (F k) (.var 3) (slF sv log m L (some (.int (j : Int))) p5 p6 (some (.tup (t.1.map .int))) (some (.int (t.2 : Int))) p9 p10 p11 p12 p13) M = .ok (.lst (L.map .int)) M := rfl
    have v7 : ev T (F k) (.var 7) (slF sv log m L (some (.int (j : Int))) p5 p6 (some (.tup (t.1.map .int))) (some (.int (t.2 : Int))) p9 p10 p11 p12 p13) M = .ok (.tup (t.1.map .int)) M := rfl
    unfold lfHeap
    rw [ex_asg, ev_comp, evI_zip, v3, bind_ok, v7, bind_ok, seqL, seqT, ziK_some, bind_ok]
    show SRes.ofR ((compR [] (stepC _ [10, 11] _ _ _) (zipL (L.map .int) (t.1.map .int)) M).bind _) _ _ = _
    rw [e1, bind_ok, ofR_ok, asgK_name, if_pos (by simp [slF])]
    rfl
  have e2 := compR_mapA (step := stepC (.name 9) [9] (evC T (F k) none) (ev T (F k) lfDot) (slF sv log m L (some (.int (j : Int))) (some (.lst ((fullOf L t).map .int))) p6 (some (.tup (t.1.map .int))) (some (.int (t.2 : Int))) p9 p10 p11 p12 p13)) (M := M) (fun s : List Int => PV.tup (s.map .int)) (fun s => PV.int (dotI (fullOf L t) s)) (items := sv) (fun s hs => by
    have e := e_lfDot k ((wipeP (slF sv log m L (some (.int (j : Int))) (some (.lst ((fullOf L t).map .int))) p6 (some (.tup (t.1.map .int))) (some (.int (t.2 : Int))) p9 p10 p11 p12 p13) [9]).set 9 (some (.tup (s.map .int)))) (fullOf L t) s (hsv.2 s hs) (by simp [slF, wipeP]) rfl rfl M
    simp only [stepC, asg, evC_none]
    rw [if_pos (by simp [slF, wipeP])]
    dsimp only
    rw [e, bind_ok])
  have e1' : sv.map (fun s => PV.int (dotI (fullOf L t) s)) = (wts (fullOf L t) sv).map .int := by
    unfold wts
    rw [List.map_map]
    rfl
  rw [e1'] at e2
  have s2 : ex T (F k) lfComp (slF sv log m L (some (.int (j : Int))) (some (.lst ((fullOf L t).map .int))) p6 (some (.tup (t.1.map .int))) (some (.int (t.2 : Int))) p9 p10 p11 p12 p13) M = .nx (slF sv log m L (some (.int (j : Int))) (some (.lst ((fullOf L t).map .int))) (some (.lst ((wts (fullOf L t) sv).map .int))) (some (.tup (t.1.map .int))) (some (.int (t.2 : Int))) p9 p10 p11 p12 p13) M := by
    have v0 : ev T (F k) (.var 0) (slF sv log m L (some (.int (j : Int))) (some (.lst ((fullOf L t).map .int))) p6 (some (.tup (t.1.map .int))) (some (.int (t.2 : Int))) p9 p10 p11 p12 p13) M = .ok (svV sv) M := rfl
    unfold lfComp
    rw [ex_asgC, ev_comp, evI_seq, v0, bind_ok]
    show SRes.ofR ((Res.ofO (seqIt M (.tup (sv.map fun s => PV.tup (s.map .int)))) M).bind _) _ _ = _
    rw [seqT, ofO_some, bind_ok]
    show SRes.ofR ((compR [] (stepC _ [9] _ _ _) (sv.map fun s => PV.tup (s.map .int)) M).bind _) _ _ = _
    rw [e2, bind_ok, ofR_ok, asgK_name, if_pos (by simp [slF])]
    rfl
  have hw : wts (fullOf L t) sv ≠ [] := by
    unfold wts
    simpa using hsv.1
  have hwl : t.2 < (wts (fullOf L t) sv).length := by
    unfold wts
    simpa using hn
  have e3 := wts_at (M := M) hwl
  have e4 := max_of (M := M) hw
  have s3 : ev T (F k) lfTest (slF sv log m L (some (.int (j : Int))) (some (.lst ((fullOf L t).map .int))) (some (.lst ((wts (fullOf L t) sv).map .int))) (some (.tup (t.1.map .int))) (some (.int (t.2 : Int))) p9 p10 p11 p12 p13) M = .ok (.bl (decide ((wts (fullOf L t) sv).getD t.2 0 < maxI (wts (fullOf L t) sv)))) M := by
    have v6 : ev T (F k) (.var 6) (slF sv log m L (some (.int (j : Int))) (some (.lst ((fullOf L t).map .int))) (some (.lst ((wts (fullOf L t) sv).map .int))) (some (.tup (t.1.map .int))) (some (.int (t.2 : Int))) p9 p10 p11 p12 p13) M = .ok (.lst ((wts (fullOf L t) sv).map .int)) M := rfl
    have v8 : ev T (F k) (.var 8) (slF sv log m L (some (.int (j : Int))) (some (.lst ((fullOf L t).map .int))) (some (.lst ((wts (fullOf L t) sv).map .int))) (some (.tup (t.1.map .int))) (some (.int (t.2 : Int))) p9 p10 p11 p12 p13) M = .ok (.int (t.2 : Int)) M := rfl
    unfold lfTest
    rw [ev_cmp, ev_idx, v6, bind_ok, v8, bind_ok, e3, ofO_some, bind_ok, ev_callB, evs_cons, v6, bind_ok, evs_nil, bind_ok, bind_ok, e4, ofO_some, bind_ok, cLt, ofO_some]
  have e5 := comp_zip (Γ := F k) (sp := slF sv log m L (some (.int (j : Int))) (some (.lst ((fullOf L t).map .int))) (some (.lst ((wts (fullOf L t) sv).map .int))) (some (.tup (t.1.map .int))) (some (.int (t.2 : Int))) p9 p10 p11 p12 p13) (v1 := 12) (v2 := 13) gMax0 (fullOf L t) (sv.getD t.2 []) M (by simp [slF]) (by simp [slF]) (by omega) (fun x y sp' _ _ g1 g2 => el_max0 g1 g2)
  have hsv2 := sv_at (M := M) hn
  have s4 : ex T (F k) lfNext (slF sv log m L (some (.int (j : Int))) (some (.lst ((fullOf L t).map .int))) (some (.lst ((wts (fullOf L t) sv).map .int))) (some (.tup (t.1.map .int))) (some (.int (t.2 : Int))) p9 p10 p11 p12 p13) M = .nx (slF sv log m (nextOf sv L t) (some (.int (j : Int))) (some (.lst ((fullOf L t).map .int))) (some (.lst ((wts (fullOf L t) sv).map .int))) (some (.tup (t.1.map .int))) (some (.int (t.2 : Int))) p9 p10 p11 p12 p13) M := by
    have v5 : ev T (F k) (.var 5) (slF sv log m L (some (.int (j : Int))) (some (.lst ((fullOf L t).map .int))) (some (.lst ((wts (fullOf L t) sv).map .int))) (some (.tup (t.1.map .int))) (some (.int (t.2 : Int))) p9 p10 p11 p12 p13) M = .ok (.lst ((fullOf L t).map .int)) M := rfl
    have v0 : ev T (F k) (.var 0) (slF sv log m L (some (.int (j : Int))) (some (.lst ((fullOf L t).map .int))) (some (.lst ((wts (fullOf L t) sv).map .int))) (some (.tup (t.1.map .int))) (some (.int (t.2 : Int))) p9 p10 p11 p12 p13) M = .ok (svV sv) M := rfl
    have v8 : ev T (F k) (.var 8) (slF sv log m L (some (.int (j : Int))) (some (.lst ((fullOf L t).map .int))) (some (.lst ((wts (fullOf L t) sv).map .int))) (some (.tup (t.1.map .int))) (some (.int (t.2 : Int))) p9 p10 p11 p12 p13) M = .ok (.int (t.2 : Int)) M := rfl
    unfold lfNext
    rw [ex_asgC, ev_comp, evI_zip, v5, bind_ok, ev_idx, v0, bind_ok, v8, bind_ok, hsv2, ofO_some, bind_ok, seqL, seqT, ziK_some, bind_ok]
    show SRes.ofR ((compR [] (stepC _ [12, 13] _ _ _) (zipL ((fullOf L t).map .int) ((sv.getD t.2 []).map .int)) M).bind _) _ _ = _
    rw [e5, bind_ok, ofR_ok, asgK_name, if_pos (by simp [slF])]
    rfl
  have v4 : ev T (F k) (.var 4) (slF sv log m L (some (.int (j : Int))) (some (.lst ((fullOf L t).map .int))) (some (.lst ((wts (fullOf L t) sv).map .int))) (some (.tup (t.1.map .int))) (some (.int (t.2 : Int))) p9 p10 p11 p12 p13) M = .ok (.int (j : Int)) M := rfl
  unfold lfBody
  rw [exs_cons, s1, seq_nx, exs_cons, s2, seq_nx, exs_cons, ex_ite, s3, evTr_bl, ofR_ok]
  by_cases h : (wts (fullOf L t) sv).getD t.2 0 < maxI (wts (fullOf L t) sv)
  · rw [if_pos (decide_eq_true h), exs_cons, ex_ret, v4, ofR_ok, seq_ret, seq_ret]
    exact .inl ⟨h, rfl⟩
  · rw [if_neg (by simpa using h), exs_nil, seq_nx, exs_cons, s4, seq_nx, exs_nil]
    exact .inr ⟨h, _, _, rfl⟩
theorem f_law_off (k : Nat) (sv : List (List Int)) (log : List (List Int × Nat)) (m : Nat) (hs : m < 1000) (hn : ∀ t ∈ log, t.2 < sv.length) (hsv : SvOk sv) (M : Store) :
    ∃ o, F (k + 1) 49 [svV sv, logV log, .int (m : Int)] M = .ok (opV1 o) M ∧ Least1 (Off m sv log) o := by
  have key := forR_ret (b := asg (.tup [.name 4, .tup [.name 7, .name 8]])) (body := exs T (F k) lfBody) (fun p : (List Int × Nat) × Nat => PV.tup [.int (p.2 : Int), turnV p.1])
    (fun i sp M' => M' = M ∧ (∃ p4 p5 p6 p7 p8 p9 p10 p11 p12 p13, sp = slF sv log m (linesAt m sv log i) p4 p5 p6 p7 p8 p9 p10 p11 p12 p13) ∧ ∀ j', j' < i → ¬ Off m sv log j')
    (fun i p M' => M' = M ∧ p = .int (i : Int) ∧ Off m sv log i ∧ ∀ j', j' < i → ¬ Off m sv log j')
    (items := log.zipIdx) (i := 0) (sp := slF sv log m (List.replicate m 0) none none none none none none none none none none) (M := M)
    ⟨rfl, ⟨_, _, _, _, _, _, _, _, _, _, rfl⟩, fun j' h => by omega⟩
    (fun j p sp M' hp hI => by
      obtain ⟨rfl, ⟨p4, p5, p6, p7, p8, p9, p10, p11, p12, p13, rfl⟩, hno⟩ := hI
      obtain ⟨hlt, rfl⟩ := zip_at hp
      rw [Nat.zero_add] at hno ⊢
      have ht : log[j]? = some log[j] := List.getElem?_eq_getElem hlt
      have hm : log[j] ∈ log := List.getElem_mem hlt
      refine ⟨slF sv log m (linesAt m sv log j) (some (.int (j : Int))) p5 p6 (some (.tup (log[j].1.map .int))) (some (.int (log[j].2 : Int))) p9 p10 p11 p12 p13, rfl, ?_⟩
      rcases e_lf k sv log m hsv j log[j] (hn _ hm) (linesAt m sv log j) p5 p6 p9 p10 p11 p12 p13 M' with ⟨h, e⟩ | ⟨h, q5, q6, e⟩
      · exact .inr ⟨_, _, e, rfl, rfl, ⟨_, ht, h⟩, hno⟩
      · refine .inl ⟨_, _, .inl e, rfl, ⟨some (.int (j : Int)), q5, q6, some (.tup (log[j].1.map .int)), some (.int (log[j].2 : Int)), p9, p10, p11, p12, p13, ?_⟩, fun j' hj' => ?_⟩
        · show _ = slF sv log m (nextOf sv (linesAt m sv log j) (log.getD j ([], 0))) _ _ _ _ _ _ _ _ _ _
          rw [log_at ht]
        · by_cases q : j' = j
          · subst q
            rintro ⟨t, ht', h2⟩
            rw [ht] at ht'
            cases ht'
            exact h h2
          · exact hno j' (by omega))
  have hen := enumLA turnV log
  have hrm : binP .Mult M (.lst [.int 0]) (.int (m : Int)) = some (.lst ((List.replicate m (0 : Int)).map .int)) := by
    rw [bMulL (rep_ok hs), rep_zero]
  have s1 : ex T (F k) (.asg (.name 3) (.bin .Mult (.lst (.cons (.int 0) .nil)) (.var 2))) [some (svV sv), some (logV log), some (.int (m : Int)), none, none, none, none, none, none, none, none, none, none, none] M = .nx (slF sv log m (List.replicate m 0) none none none none none none none none none none) M := by
    have v2 : ev T (F k) (.var 2) [some (svV sv), some (logV log), some (.int (m : Int)), none, none, none, none, none, none, none, none, none, none, none] M = .ok (.int (m : Int)) M := rfl
    rw [ex_asg, ev_bin, ev_lst, evs_cons, ev_int, bind_ok, evs_nil, bind_ok, bind_ok, if_pos (by exact (show 1 ≤ sizeLine from by decide)), bind_ok, v2, bind_ok, hrm, ofO_some, ofR_ok, asgK_name, if_pos (by simp)]
    rfl
  have v1 : ev T (F k) (.var 1) (slF sv log m (List.replicate m 0) none none none none none none none none none none) M = .ok (logV log) M := rfl
  have s0 : F (k + 1) 49 [svV sv, logV log, .int (m : Int)] M = runK M.length ((forR [] (asg (.tup [.name 4, .tup [.name 7, .name 8]])) (exs T (F k) lfBody) (log.zipIdx.map fun p : (List Int × Nat) × Nat => PV.tup [.int (p.2 : Int), turnV p.1]) (slF sv log m (List.replicate m 0) none none none none none none none none none none) M).seq (exs T (F k) (.cons (.ret .non) .nil))) := by
    rw [F_run (n := 11) rfl rfl rfl]
    show runK M.length (exs T (F k) (.cons (.asg (.name 3) (.bin .Mult (.lst (.cons (.int 0) .nil)) (.var 2))) (.cons (.forS (.tup [(.name 4), (.tup [(.name 7), (.name 8)])]) (.enum (.var 1)) lfBody) (.cons (.ret .non) .nil))) [some (svV sv), some (logV log), some (.int (m : Int)), none, none, none, none, none, none, none, none, none, none, none] M) = _
    rw [exs_cons, s1, seq_nx, exs_cons, ex_for, evI_enum, v1, bind_ok, seq_log, enK_some, ofR_ok]
    show runK M.length ((forR [] _ _ (enumL (log.map turnV)) _ _).seq _) = _
    rw [hen]
  rw [s0]
  rcases key with ⟨sp', M', e, rfl, _, h⟩ | ⟨j, p, M', e, _, _, rfl, rfl, h1, h2⟩
  · rw [e, seq_nx, exs_cons, ex_ret, ev_non, ofR_ok, seq_ret, runK_ret, gcM_self]
    refine ⟨none, rfl, fun j hP => h j ?_ hP⟩
    obtain ⟨t, ht, _⟩ := hP
    have := (List.getElem?_eq_some_iff.mp ht).1
    simpa using this
  · rw [e, seq_ret, runK_ret, gcM_self]
    exact ⟨some j, rfl, h1, h2⟩
end My
set_option maxHeartbeats 4000000
namespace My
open PySem DI
/-! ### follows_frame -/
def frV (f : List Nat) : PV := .tup (f.map fun n : Nat => .int (n : Int))
def followsB (log : List (List Int × Nat)) (f : List Nat) : Bool := log.zipIdx.all fun p => decide (p.1.2 = f.getD (p.2 % f.length) 0)
theorem cln_frV (f : List Nat) (n : Nat) : cln (n + 1) (frV f) = true := by
  refine cln_tup fun x hx => ?_
  obtain ⟨i, _, rfl⟩ := List.mem_map.mp hx
  simp [cln]
theorem frV_nil {f : List Nat} : frV f = .tup [] ↔ f = [] := by
  unfold frV
  simp
theorem frV_at {M : Store} {f : List Nat} {i : Nat} (h : i < f.length) : idxP M (frV f) (.int (i : Int)) = some (.int (f.getD i 0 : Nat)) := by
  unfold frV
  refine idx_get ?_
  rw [List.getElem?_map, List.getElem?_eq_getElem h, List.getD_eq_getElem?_getD, List.getElem?_eq_getElem h]
  rfl
theorem indexes_fr (k : Nat) (f : List Nat) (M : Store) : F (k + 4) 8 [frV f] M = .ok (.bl true) M := by
  have e := tupof (k + 2) 1 (f.map fun n : Nat => .int (n : Int)) (fun _ => true) M (fun x hx => by
    obtain ⟨i, _, rfl⟩ := List.mem_map.mp hx
    have h := index_int k (i : Int) M
    rw [decide_eq_true (by omega)] at h
    exact h)
  rw [show (f.map fun n : Nat => PV.int (n : Int)).all (fun _ => true) = true by rw [List.all_eq_true]; exact fun _ _ => rfl] at e
  unfold frV
  generalize (f.map fun n : Nat => PV.int (n : Int)) = l at *
  rw [F_run (n := 0) rfl rfl rfl]
  simp [e]
theorem indexes_one (k : Nat) (x : PV) (M : Store) (h : F (k + 2) 1 [x] M = .ok (.bl false) M) : F (k + 4) 8 [.tup [x]] M = .ok (.bl false) M := by
  have e := tupof (k + 2) 1 [x] (fun _ => false) M (fun y hy => by
    rw [List.mem_singleton.mp hy]
    exact h)
  rw [F_run (n := 0) rfl rfl rfl]
  simp at e
  simp [e]
theorem indexes_non (k : Nat) (M : Store) : F (k + 4) 8 [.non] M = .ok (.bl false) M := by
  have e := tupof_non (k + 2) 1 M
  rw [F_run (n := 0) rfl rfl rfl]
  simp [e]
theorem indexes_lst (k : Nat) (xs : List PV) (M : Store) : F (k + 4) 8 [.lst xs] M = .ok (.bl false) M := by
  have e := tupof_lst (k + 2) 1 xs M
  rw [F_run (n := 0) rfl rfl rfl]
  simp [e]
theorem follows_no (k : Nat) (L x : PV) (M : Store) (h : F (k + 4) 8 [x] M = .ok (.bl false) M) : F (k + 5) 29 [L, x] M = .ok (.bl false) M := by
  rw [F_run (n := 3) rfl rfl rfl]
  simp [h]
theorem follows_nil (k : Nat) (L : PV) (M : Store) : F (k + 5) 29 [L, .tup []] M = .ok (.bl false) M := by
  have h := indexes_fr k [] M
  have e : eqP M (.tup []) (.tup []) = some (.bl true) := eqP_same rfl
  have h' : F (k + 4) 8 [.tup []] M = .ok (.bl true) M := h
  rw [F_run (n := 3) rfl rfl rfl]
  simp [h', e]
def ffTest : CE := (.orE (.cons (.notE (.call 8 (.cons (.var 1) .nil))) (.cons (.cmp .Eq (.var 1) (.tup .nil)) .nil)))
def ffEq : CE := (.cmp .Eq (.var 4) (.idx (.var 1) (.bin .Mod (.var 2) (.callB .len (.cons (.var 1) .nil)))))
def ffAll : CE := (.callB .all (.cons (.comp [("at", 2), ("comes", 3), ("number", 4)] (.tup [(.name 2), (.tup [(.name 3), (.name 4)])]) (.enum (.var 0)) none ffEq) .nil))
theorem len_fr {M : Store} (f : List Nat) : biP .len M [frV f] = some (.int (f.length : Int)) := by
  unfold frV
  simp
theorem f_follows (k : Nat) (log : List (List Int × Nat)) (f : List Nat) (hf : f ≠ []) (M : Store) : F (k + 5) 29 [logV log, frV f] M = .ok (.bl (followsB log f)) M := by
  have hp : 0 < f.length := List.length_pos_iff.mpr hf
  have e1 := indexes_fr k f M
  have e2 : eqP M (frV f) (.tup []) = some (.bl false) := eqP_diff (cln_frV f 59) rfl fun h => hf (frV_nil.mp h)
  have e3 := compR_mapA (step := stepC (.tup [(.name 2), (.tup [(.name 3), (.name 4)])]) [2, 3, 4] (evC T (F (k + 4)) none) (ev T (F (k + 4)) ffEq) [some (logV log), some (frV f), none, none, none]) (M := M) (fun p : (List Int × Nat) × Nat => PV.tup [.int (p.2 : Int), turnV p.1]) (fun p => PV.bl (decide (p.1.2 = f.getD (p.2 % f.length) 0))) (items := log.zipIdx) (fun p hp' => by
    have h1 : p.2 % f.length < f.length := Nat.mod_lt _ hp
    have h2 := frV_at (M := M) h1
    have h3 : binP .Mod M (.int (p.2 : Int)) (.int (f.length : Int)) = some (.int ((p.2 % f.length : Nat) : Int)) := by
      rw [bMod (by omega), fmodN]
    have h4 := len_fr (M := M) f
    have h5 : eqP M (.int (p.1.2 : Int)) (.int ((f.getD (p.2 % f.length) 0 : Nat) : Int)) = some (.bl (decide (p.1.2 = f.getD (p.2 % f.length) 0))) := by
      rw [eqP_int]
      congr 2
      exact decide_eq_decide.mpr (by omega)
    unfold ffEq
    have h6 : asg (.tup [(.name 2), (.tup [(.name 3), (.name 4)])]) (.tup [.int (p.2 : Int), turnV p.1]) (wipeP [some (logV log), some (frV f), none, none, none] [2, 3, 4]) = some [some (logV log), some (frV f), some (.int (p.2 : Int)), some (.tup (p.1.1.map .int)), some (.int (p.1.2 : Int))] := rfl
    simp only [stepC, h6, evC_none]
    generalize logV log = y1 at *
    generalize frV f = y2 at *
    generalize (f.length : Int) = y3 at *
    generalize ((p.2 % f.length : Nat) : Int) = y4 at *
    generalize decide (p.1.2 = f.getD (p.2 % f.length) 0) = y6 at *
    generalize ((f.getD (p.2 % f.length) 0 : Nat) : Int) = y5 at *
    generalize p.1.1.map PV.int = y7 at *
    generalize (p.1.2 : Int) = y8 at *
    generalize (p.2 : Int) = y9 at *
    simp [h2, h3, h4, h5])
  have hen := enumLA turnV log
  have e4 := biAll (M := M) (fun p : (List Int × Nat) × Nat => decide (p.1.2 = f.getD (p.2 % f.length) 0)) log.zipIdx
  have s1 : ev T (F (k + 4)) ffTest [some (logV log), some (frV f), none, none, none] M = .ok (.bl false) M := by
    unfold ffTest
    generalize logV log = y1 at *
    generalize frV f = y2 at *
    simp [e1, e2]
  have v0 : ev T (F (k + 4)) (.var 0) [some (logV log), some (frV f), none, none, none] M = .ok (logV log) M := rfl
  have s2 : ev T (F (k + 4)) ffAll [some (logV log), some (frV f), none, none, none] M = .ok (.bl (followsB log f)) M := by
    unfold ffAll
    rw [ev_callB, evs_cons, ev_comp, evI_enum, v0, bind_ok, seq_log, enK_some, bind_ok]
    show (((compR [] (stepC _ [2, 3, 4] _ _ _) (enumL (log.map turnV)) M).bind _).bind _).bind _ = _
    rw [hen, e3, bind_ok, bind_ok, evs_nil, bind_ok, bind_ok, e4, ofO_some]
    rfl
  rw [F_run (n := 3) rfl rfl rfl]
  show runK M.length (exs T (F (k + 4)) (.cons (.ite ffTest (.cons (.ret (.bl false)) .nil) .nil) (.cons (.ret ffAll) .nil)) [some (logV log), some (frV f), none, none, none] M) = _
  rw [exs_cons, ex_ite, s1, evTr_bl, ofR_ok, if_neg (by simp), exs_nil, seq_nx, exs_cons, ex_ret, s2, ofR_ok, seq_ret, runK_ret, gcM_self]
end My
set_option maxHeartbeats 4000000
namespace My
open PySem DI
/-! ### the law's draws -/
theorem lift_map {α : Type} (f : α → PV) (P : α → Prop) : ∀ ys : List PV, (∀ y ∈ ys, ∃ a, y = f a ∧ P a) → ∃ l : List α, ys = l.map f ∧ l.length = ys.length ∧ ∀ a ∈ l, P a
  | [], _ => ⟨[], rfl, rfl, by simp⟩
  | y :: ys, h => by
    obtain ⟨a, rfl, ha⟩ := h y List.mem_cons_self
    obtain ⟨l, rfl, h1, h2⟩ := lift_map f P ys fun z hz => h z (List.mem_cons_of_mem _ hz)
    refine ⟨a :: l, rfl, by simp, fun b hb => ?_⟩
    rcases List.mem_cons.mp hb with rfl | hb
    · exact ha
    · exact h2 b hb
theorem mem_of_R {α : Type} {items : List α} {ys : List PV} {Q : PV → Prop} (hl : ys.length = items.length) (h : ∀ (i : Nat) (x : α) (y : PV), items[i]? = some x → ys[i]? = some y → Q y) : ∀ y ∈ ys, Q y := by
  intro y hy
  obtain ⟨i, hi, rfl⟩ := List.getElem_of_mem hy
  have hlt : i < items.length := by omega
  exact h i items[i] ys[i] (List.getElem?_eq_getElem hlt) (List.getElem?_eq_getElem hi)
def d6 : List PV := [.int 0, .int 0, .int 1, .int 1, .int 2, .int 3]
theorem d6_int {y : PV} (h : y ∈ d6) : ∃ i : Int, y = .int i ∧ 0 ≤ i ∧ i ≤ 3 := by
  simp only [d6, List.mem_cons, List.not_mem_nil, or_false] at h
  rcases h with rfl | rfl | rfl | rfl | rfl | rfl <;> exact ⟨_, rfl, by decide, by decide⟩
def drawC (v : Nat) : CE := (.callB .tuple (.cons (.comp [("j", v)] (.name v) (.rng1 (.var 1)) none (.call 34 (.cons (.var 0) (.cons (.lst (.cons (.int 0) (.cons (.int 0) (.cons (.int 1) (.cons (.int 1) (.cons (.int 2) (.cons (.int 3) .nil))))))) .nil)))) .nil))
theorem bag_cons {R M : Store} (h : Bag R M) : ∃ b, M = b :: R := by
  obtain ⟨b0, b1, n, cs, rfl, _⟩ := h
  exact ⟨_, rfl⟩
/-- `tuple([_law_some(bag, [0, 0, 1, 1, 2, 3]) for j in range(many)])` -/
theorem b_draw (k : Nat) {R M : Store} (h : Bag R M) (sp : Sl) (v m : Nat) (hm : m < 1000) (g0 : sp[0]? = some (some (.ref 0))) (g1 : sp[1]? = some (some (.int (m : Int)))) (hv : v < sp.length) (hv0 : v ≠ 0) :
    ∃ (l : List Int) (M' : Store), ev T (F (k + 2)) (drawC v) sp M = .ok (.tup (l.map .int)) M' ∧ Bag R M' ∧ l.length = m ∧ ∀ i ∈ l, 0 ≤ i ∧ i ≤ 3 := by
  obtain ⟨ys, M', e, hb, hl, hmem⟩ := comp_some k h m d6 (by decide) (by decide) (stepC (.name v) [v] (evC T (F (k + 2)) none) (ev T (F (k + 2)) (.call 34 (.cons (.var 0) (.cons (.lst (.cons (.int 0) (.cons (.int 0) (.cons (.int 1) (.cons (.int 1) (.cons (.int 2) (.cons (.int 3) .nil))))))) .nil)))) sp) (fun j M x M' hM hx => by
    have hs : 6 ≤ sizeLine := by decide
    have hw : (wipeP sp [v]).length = sp.length := by simp [wipeP]
    have g0' : ((wipeP sp [v]).set v (some (.int (j : Int))))[0]? = some (some (.ref 0)) := by
      simp only [wipeP]
      rw [List.getElem?_set_ne hv0, List.getElem?_set_ne hv0, g0]
    unfold d6 at hx
    simp only [stepC, asg, evC_none, hw, if_pos hv]
    generalize (wipeP sp [v]).set v (some (.int (j : Int))) = sp' at *
    simp [g0', hs, hx])
  obtain ⟨l, rfl, h1, h2⟩ := lift_map PV.int (fun i : Int => 0 ≤ i ∧ i ≤ 3) ys fun y hy => d6_int (hmem y hy)
  refine ⟨l, M', ?_, hb, by rw [h1, hl], h2⟩
  have hr := rngIt0 (n := m) (by omega)
  unfold drawC
  rw [ev_callB, evs_cons, ev_comp, evI_rng1, ev_var, g1, varK_some, bind_ok, rng1K_int, hr, ofO_some, bind_ok]
  show (((compR [] (stepC _ [v] _ _ _) ((List.range m).map fun j : Nat => PV.int (j : Int)) M).bind _).bind _).bind _ = _
  rw [e, bind_ok, bind_ok, evs_nil, bind_ok, bind_ok, biTupL, ofO_some]
theorem insT_mem {B : Int} {x : List Int} : ∀ {l : List (List Int)} {y : List Int}, y ∈ insT B x l → y = x ∨ y ∈ l
  | [], y, h => by simp [insT] at h; exact .inl h
  | z :: r, y, h => by
    unfold insT at h
    split at h
    · rcases List.mem_cons.mp h with q | q
      · exact .inl q
      · exact .inr q
    · split at h
      · exact .inr h
      · rcases List.mem_cons.mp h with q | q
        · exact .inr (by rw [q]; exact List.mem_cons_self)
        · rcases insT_mem q with q | q
          · exact .inl q
          · exact .inr (List.mem_cons_of_mem _ q)
theorem insT_ne {B : Int} {x : List Int} : ∀ {l : List (List Int)}, insT B x l ≠ []
  | [] => by simp [insT]
  | z :: r => by
    unfold insT
    split
    · simp
    · split <;> simp
theorem insT_len {B : Int} {x : List Int} : ∀ {l : List (List Int)}, (insT B x l).length ≤ l.length + 1
  | [] => by simp [insT]
  | z :: r => by
    have := insT_len (B := B) (x := x) (l := r)
    unfold insT
    split
    · simp
    · split
      · simp
      · simp; omega
theorem sortT_mem {B : Int} : ∀ {l : List (List Int)} {y : List Int}, y ∈ sortT B l → y ∈ l
  | [], y, h => by simp [sortT] at h
  | x :: r, y, h => by
    unfold sortT at h
    rcases insT_mem h with q | q
    · rw [q]; exact List.mem_cons_self
    · exact List.mem_cons_of_mem _ (sortT_mem q)
theorem sortT_ne {B : Int} {l : List (List Int)} (h : l ≠ []) : sortT B l ≠ [] := by
  cases l with
  | nil => exact absurd rfl h
  | cons x r => unfold sortT; exact insT_ne
theorem sortT_len {B : Int} : ∀ {l : List (List Int)}, (sortT B l).length ≤ l.length
  | [] => by simp [sortT]
  | x :: r => by
    have h1 := sortT_len (B := B) (l := r)
    have h2 := insT_len (B := B) (x := x) (l := sortT B r)
    unfold sortT
    simp
    omega
theorem intTups_map : ∀ ks : List (List Int), intTups (ks.map tupI) = some ks
  | [] => rfl
  | k :: ks => by
    simp only [List.map_cons, tupI, intTups, intsOf_m]
    rw [intTups_map ks]
theorem sset_of {M : Store} {ks : List (List Int)} {m : Nat} (hne : ks ≠ []) (hm : 1 ≤ m) (hl : ks.length < 64) (h : ∀ k ∈ ks, k.length = m ∧ ∀ i ∈ k, 0 ≤ i ∧ i ≤ 3) : ssetP M (.lst (ks.map tupI)) = some (.lst ((sortT srtB ks).map tupI)) := by
  unfold ssetP
  have hi : itemsL M (.lst (ks.map tupI)) = some (ks.map tupI) := rfl
  rw [hi]
  simp only [intTups_map]
  have hd : (ks.headD [0]).length = m := by
    cases ks with
    | nil => exact absurd rfl hne
    | cons k r => exact (h k List.mem_cons_self).1
  rw [hd, if_pos]
  · rfl
  · rw [decide_eq_true hm, decide_eq_true hl, Bool.true_and, Bool.true_and, List.all_eq_true]
    intro k hk
    obtain ⟨h1, h2⟩ := h k hk
    unfold bdB srtB
    rw [decide_eq_true h1, Bool.true_and, List.all_eq_true]
    intro i hi
    have := h2 i hi
    rw [decide_eq_true (by omega), decide_eq_true (by omega)]
    rfl
/-- weights: some lists, all of length m, of 0 .. 3 -/
def SvM (m : Nat) (sv : List (List Int)) : Prop := sv ≠ [] ∧ sv.length ≤ 4 ∧ ∀ s ∈ sv, s.length = m ∧ ∀ y ∈ s, 0 ≤ y ∧ y ≤ 3
theorem SvM.ok {m : Nat} {sv : List (List Int)} (h : SvM m sv) : SvOk sv := ⟨h.1, fun s hs y hy => ⟨((h.2.2 s hs).2 y hy).1, by have := ((h.2.2 s hs).2 y hy).2; omega⟩⟩
theorem b_services (k : Nat) {R M : Store} (h : Bag R M) (m : Nat) (hm : 1 ≤ m) (hm2 : m ≤ 3) : ∃ (sv : List (List Int)) (M' : Store), F (k + 3) 42 [.ref 0, .int (m : Int)] M = .ok (svV sv) M' ∧ Bag R M' ∧ SvM m sv := by
  obtain ⟨v, M1, e1, hb1, h0, h1⟩ := b_take (k + 1) h 4 (by omega) (by omega)
  obtain ⟨n, hn⟩ : ∃ n : Nat, 1 + v = (n : Int) := ⟨(1 + v).toNat, by omega⟩
  obtain ⟨ys, M2, e2, hb2, hl, hR⟩ := compR_st (fun j : Nat => PV.int (j : Int)) (Bag R) (fun _ y => ∃ l : List Int, y = tupI l ∧ (l.length = m ∧ ∀ i ∈ l, 0 ≤ i ∧ i ≤ 3)) (items := List.range n) (M := M1)
    (step := stepC (.name 2) [2] (evC T (F (k + 2)) none) (ev T (F (k + 2)) (drawC 3)) [some (.ref 0), some (.int (m : Int)), none, none]) hb1 (fun j _ M hM => by
      obtain ⟨l, M', e, hb, q1, q2⟩ := b_draw k hM [some (.ref 0), some (.int (m : Int)), some (.int (j : Int)), none] 3 m (by omega) rfl rfl (by simp) (by omega)
      refine ⟨.tup (l.map .int), M', ?_, hb, l, rfl, q1, q2⟩
      have hw : asg (.name 2) (.int (j : Int)) (wipeP [some (.ref 0), some (.int (m : Int)), none, none] [2]) = some [some (.ref 0), some (.int (m : Int)), some (.int (j : Int)), none] := rfl
      simp only [stepC, hw, evC_none]
      rw [e, bind_ok])
  obtain ⟨ks, rfl, hkl, hk⟩ := lift_map tupI (fun l : List Int => l.length = m ∧ ∀ i ∈ l, 0 ≤ i ∧ i ≤ 3) ys (mem_of_R hl fun i x y q1 q2 => hR i x y q1 q2)
  have hlen : ks.length = n := by simpa using hl
  have hne : ks ≠ [] := by
    intro z
    rw [z] at hlen
    simp at hlen
    omega
  have e3 := sset_of (M := M2) hne hm (by omega) hk
  have hr := rngIt0 (n := n) (by omega)
  refine ⟨sortT srtB ks, M2, ?_, hb2, sortT_ne hne, Nat.le_trans sortT_len (by omega), fun s hs => hk s (sortT_mem hs)⟩
  have hres : svV (sortT srtB ks) = .tup ((sortT srtB ks).map tupI) := rfl
  rw [hres]
  obtain ⟨bb, rfl⟩ := bag_cons h
  obtain ⟨b2, rfl⟩ := bag_cons hb2
  have s1 : ev T (F (k + 2)) (.bin .Add (.int 1) (.call 33 (.cons (.var 0) (.cons (.int 4) .nil)))) [some (.ref 0), some (.int (m : Int)), none, none] (bb :: R) = .ok (.int (n : Int)) M1 := by
    rw [← hn]
    simp [e1]
  rw [F_run (n := 2) rfl rfl rfl]
  show runK (bb :: R).length (exs T (F (k + 2)) (.cons (.ret (.callB .tuple (.cons (.sset (.comp [("k", 2)] (.name 2) (.rng1 (.bin .Add (.int 1) (.call 33 (.cons (.var 0) (.cons (.int 4) .nil))))) none (drawC 3))) .nil))) .nil) [some (.ref 0), some (.int (m : Int)), none, none] (bb :: R)) = _
  rw [exs_cons, ex_ret, ev_callB, evs_cons, ev_sset, ev_comp, evI_rng1, s1, bind_ok, rng1K_int, hr, ofO_some, bind_ok]
  show runK _ ((SRes.ofR ((((((compR [] (stepC _ [2] _ _ _) ((List.range n).map fun j : Nat => PV.int (j : Int)) M1).bind _).bind _).bind _).bind _)) _ _).seq _) = _
  rw [e2, bind_ok, bind_ok, e3, ofO_some, bind_ok, evs_nil, bind_ok, bind_ok, biTupL, ofO_some, ofR_ok, seq_ret, runK_ret]
  simp
end My
set_option maxHeartbeats 4000000
namespace My
open PySem DI
/-- a log that the law draws -/
def LogM (m ns : Nat) (log : List (List Int × Nat)) : Prop := log.length ≤ 10 ∧ ∀ t ∈ log, t.1.length = m ∧ (∀ y ∈ t.1, 0 ≤ y ∧ y ≤ 3) ∧ t.2 < ns
theorem b_log (k : Nat) {R M : Store} (h : Bag R M) (m ns : Nat) (hm : m < 1000) (hns : 1 ≤ ns) (hns2 : ns < 1000) : ∃ (log : List (List Int × Nat)) (M' : Store), F (k + 3) 45 [.ref 0, .int (m : Int), .int (ns : Int), .int 10] M = .ok (logV log) M' ∧ Bag R M' ∧ LogM m ns log := by
  obtain ⟨v, M1, e1, hb1, h0, h1⟩ := b_take (k + 1) h 11 (by omega) (by omega)
  obtain ⟨n, hn⟩ : ∃ n : Nat, v = (n : Int) := ⟨v.toNat, by omega⟩
  subst hn
  obtain ⟨ys, M2, e2, hb2, hl, hR⟩ := compR_st (fun j : Nat => PV.int (j : Int)) (Bag R) (fun _ y => ∃ t : List Int × Nat, y = turnV t ∧ (t.1.length = m ∧ (∀ y ∈ t.1, 0 ≤ y ∧ y ≤ 3) ∧ t.2 < ns)) (items := List.range n) (M := M1)
    (step := stepC (.name 4) [4] (evC T (F (k + 2)) none) (ev T (F (k + 2)) (.tup (.cons (drawC 5) (.cons (.call 33 (.cons (.var 0) (.cons (.var 2) .nil))) .nil)))) [some (.ref 0), some (.int (m : Int)), some (.int (ns : Int)), some (.int 10), none, none]) hb1 (fun j _ M hM => by
      obtain ⟨l, M', e, hb, q1, q2⟩ := b_draw k hM [some (.ref 0), some (.int (m : Int)), some (.int (ns : Int)), some (.int 10), some (.int (j : Int)), none] 5 m (by omega) rfl rfl (by simp) (by omega)
      obtain ⟨w, M'', e', hb', w0, w1⟩ := b_take (k + 1) hb (ns : Int) (by omega) (by omega)
      refine ⟨.tup [.tup (l.map .int), .int w], M'', ?_, hb', (l, w.toNat), ?_, q1, q2, by show w.toNat < ns; omega⟩
      · have hw : asg (.name 4) (.int (j : Int)) (wipeP [some (.ref 0), some (.int (m : Int)), some (.int (ns : Int)), some (.int 10), none, none] [4]) = some [some (.ref 0), some (.int (m : Int)), some (.int (ns : Int)), some (.int 10), some (.int (j : Int)), none] := rfl
        have v0 : ∀ M, ev T (F (k + 2)) (.var 0) [some (.ref 0), some (.int (m : Int)), some (.int (ns : Int)), some (.int 10), some (.int (j : Int)), none] M = .ok (.ref 0) M := fun M => rfl
        have v2 : ∀ M, ev T (F (k + 2)) (.var 2) [some (.ref 0), some (.int (m : Int)), some (.int (ns : Int)), some (.int 10), some (.int (j : Int)), none] M = .ok (.int (ns : Int)) M := fun M => rfl
        simp only [stepC, hw, evC_none]
        rw [ev_tup, evs_cons, e, bind_ok, evs_cons, ev_call, evs_cons, v0, bind_ok, evs_cons, v2, bind_ok, evs_nil, bind_ok, bind_ok, bind_ok, e', bind_ok, evs_nil, bind_ok, bind_ok, bind_ok, if_pos (by exact sz2), bind_ok]
      · unfold turnV
        show _ = PV.tup [.tup (l.map .int), .int (w.toNat : Int)]
        rw [Int.toNat_of_nonneg w0])
  obtain ⟨log, rfl, hkl, hk⟩ := lift_map turnV (fun t : List Int × Nat => t.1.length = m ∧ (∀ y ∈ t.1, 0 ≤ y ∧ y ≤ 3) ∧ t.2 < ns) ys (mem_of_R hl fun i x y q1 q2 => hR i x y q1 q2)
  have hlen : log.length = n := by simpa using hl
  have hr := rngIt0 (n := n) (by omega)
  refine ⟨log, M2, ?_, hb2, by omega, hk⟩
  obtain ⟨bb, rfl⟩ := bag_cons h
  obtain ⟨b2, rfl⟩ := bag_cons hb2
  have s1 : ev T (F (k + 2)) (.call 33 (.cons (.var 0) (.cons (.bin .Add (.var 3) (.int 1)) .nil))) [some (.ref 0), some (.int (m : Int)), some (.int (ns : Int)), some (.int 10), none, none] (bb :: R) = .ok (.int (n : Int)) M1 := by
    simp [e1]
  rw [F_run (n := 2) rfl rfl rfl]
  show runK (bb :: R).length (exs T (F (k + 2)) (.cons (.ret (.callB .tuple (.cons (.comp [("k", 4)] (.name 4) (.rng1 (.call 33 (.cons (.var 0) (.cons (.bin .Add (.var 3) (.int 1)) .nil)))) none (.tup (.cons (drawC 5) (.cons (.call 33 (.cons (.var 0) (.cons (.var 2) .nil))) .nil)))) .nil))) .nil) [some (.ref 0), some (.int (m : Int)), some (.int (ns : Int)), some (.int 10), none, none] (bb :: R)) = _
  rw [exs_cons, ex_ret, ev_callB, evs_cons, ev_comp, evI_rng1, s1, bind_ok, rng1K_int, hr, ofO_some, bind_ok]
  show runK _ ((SRes.ofR (((((compR [] (stepC _ [4] _ _ _) ((List.range n).map fun j : Nat => PV.int (j : Int)) M1).bind _).bind _).bind _)) _ _).seq _) = _
  rw [e2, bind_ok, bind_ok, evs_nil, bind_ok, bind_ok, biTupL, ofO_some, ofR_ok, seq_ret, runK_ret]
  simp [logV]
/-! ### _law_bound -/
theorem okS_bag {M : Store} (h : Bag [] M) : okS M := by
  obtain ⟨b0, b1, n, cs, rfl, _⟩ := h
  simp [okS, okObj, bagV, okRefs, okRef, okRefs_ints]
theorem bag_gc {M : Store} {o : Option SObj} {p : PV} (h : Bag [o] M) (hp : okRef 1 p = true) : ∃ M', gcM 1 M [p] = M' ∧ Bag [] M' := by
  obtain ⟨b0, b1, n, cs, rfl, h1⟩ := h
  have hb : Bag [] [some (.lst (bagV b0 b1 n cs))] := ⟨b0, b1, n, cs, rfl, h1⟩
  refine ⟨_, ?_, hb⟩
  have := gcM_app (M := [some (.lst (bagV b0 b1 n cs))]) (L := [o]) (ps := [p]) (okS_bag hb) (by simp [okRefs, hp])
  exact this
/-- a burst that `_law_bound` draws -/
def BdM (p : Rat × Rat) : Prop := (0 ≤ p.1 ∧ p.1.den ≤ 4 ∧ p.1.num ≤ 4) ∧ 0 ≤ p.2 ∧ p.2.den ≤ 4 ∧ p.2.num ≤ 4
def b4 : List PV := [.tup [.int 1, .int 1], .tup [.int 1, .int 1], .tup [.int 2, .int 1], .tup [.int 3, .int 2]]
def z4 : List PV := [.tup [.int 0, .int 1], .tup [.int 0, .int 1], .tup [.int 0, .int 1], .tup [.int 0, .int 1]]
theorem b4_ok : ∀ p ∈ b4 ++ z4, ∃ q : Rat, p = fr q ∧ 0 ≤ q ∧ q.den ≤ 4 ∧ q.num ≤ 4 := by
  intro p hp
  simp only [b4, z4, List.cons_append, List.nil_append, List.mem_cons, List.not_mem_nil, or_false] at hp
  rcases hp with rfl | rfl | rfl | rfl | rfl | rfl | rfl | rfl
  · exact ⟨1, fr_of (by decide +kernel) (by decide +kernel), by decide +kernel, by decide +kernel, by decide +kernel⟩
  · exact ⟨1, fr_of (by decide +kernel) (by decide +kernel), by decide +kernel, by decide +kernel, by decide +kernel⟩
  · exact ⟨2, fr_of (by decide +kernel) (by decide +kernel), by decide +kernel, by decide +kernel, by decide +kernel⟩
  · exact ⟨3 / 2, fr_of (by decide +kernel) (by decide +kernel), by decide +kernel, by decide +kernel, by decide +kernel⟩
  · exact ⟨0, fr_of (by decide +kernel) (by decide +kernel), by decide +kernel, by decide +kernel, by decide +kernel⟩
  · exact ⟨0, fr_of (by decide +kernel) (by decide +kernel), by decide +kernel, by decide +kernel, by decide +kernel⟩
  · exact ⟨0, fr_of (by decide +kernel) (by decide +kernel), by decide +kernel, by decide +kernel, by decide +kernel⟩
  · exact ⟨0, fr_of (by decide +kernel) (by decide +kernel), by decide +kernel, by decide +kernel, by decide +kernel⟩
def lbBurst : CE := (.bin .Add (.lst (.cons (.tup (.cons (.int 1) (.cons (.int 1) .nil))) (.cons (.tup (.cons (.int 1) (.cons (.int 1) .nil))) (.cons (.tup (.cons (.int 2) (.cons (.int 1) .nil))) (.cons (.tup (.cons (.int 3) (.cons (.int 2) .nil))) .nil))))) (.ife (.cmp .Eq (.var 4) (.tup (.cons (.int 0) (.cons (.int 1) .nil)))) (.bin .Mult (.lst (.cons (.tup (.cons (.int 0) (.cons (.int 1) .nil))) .nil)) (.int 4)) (.lst .nil)))
def lbBody : CSs := (.cons (.asg (.name 4) (.call 43 (.cons (.var 0) .nil))) (.cons (.asg (.name 5) lbBurst) (.cons (.expr (.meth .append (.var 2) (.cons (.tup (.cons (.var 4) (.cons (.call 34 (.cons (.var 0) (.cons (.var 5) .nil))) .nil))) .nil))) .nil)))
def slB (m : Nat) (p3 p4 p5 : Option PV) : Sl := [some (.ref 0), some (.int (m : Int)), some (.ref 1), p3, p4, p5]
theorem bag_lst {xs : List PV} {M : Store} (h : Bag [some (.lst xs)] M) : lstAt M 1 = some xs := by
  obtain ⟨b0, b1, n, cs, rfl, _⟩ := h
  rfl
theorem bag_set {xs ys : List PV} {M : Store} (h : Bag [some (.lst xs)] M) : Bag [some (.lst ys)] (M.set 1 (some (.lst ys))) := by
  obtain ⟨b0, b1, n, cs, rfl, h⟩ := h
  exact ⟨b0, b1, n, cs, rfl, h⟩
theorem e_lbBurst (k m : Nat) (q : Rat) (p3 p5 : Option PV) (M : Store) : ∃ xs, ev T (F k) lbBurst (slB m p3 (some (fr q)) p5) M = .ok (.lst xs) M ∧ 1 ≤ xs.length ∧ xs.length < 1000000 ∧ ∀ x ∈ xs, x ∈ b4 ++ z4 := by
  have hq := @eqP_fr M q 0
  rw [f0] at hq
  have h4 : 4 ≤ sizeLine := by decide
  have h8 : 8 ≤ sizeLine := by decide
  have h1 : 1 ≤ sizeLine := by decide
  have hr : binP .Mult M (.lst [.tup [.int 0, .int 1]]) (.int 4) = some (.lst z4) := by
    rw [bMulL (by decide)]
    rfl
  have ha1 : binP .Add M (.lst b4) (.lst z4) = some (.lst (b4 ++ z4)) := bAddL (by decide)
  have ha2 : binP .Add M (.lst b4) (.lst []) = some (.lst b4) := by
    rw [bAddL (by decide), List.append_nil]
  have v4 : ev T (F k) (.var 4) (slB m p3 (some (fr q)) p5) M = .ok (fr q) M := rfl
  have s1 : ev T (F k) (.lst (.cons (.tup (.cons (.int 1) (.cons (.int 1) .nil))) (.cons (.tup (.cons (.int 1) (.cons (.int 1) .nil))) (.cons (.tup (.cons (.int 2) (.cons (.int 1) .nil))) (.cons (.tup (.cons (.int 3) (.cons (.int 2) .nil))) .nil))))) (slB m p3 (some (fr q)) p5) M = .ok (.lst b4) M := by
    simp [sz2, h4, b4]
  have s2 : ev T (F k) (.cmp .Eq (.var 4) (.tup (.cons (.int 0) (.cons (.int 1) .nil)))) (slB m p3 (some (fr q)) p5) M = .ok (.bl (decide (q = 0))) M := by
    rw [ev_cmp, v4, bind_ok, ev_tup, evs_cons, ev_int, bind_ok, evs_cons, ev_int, bind_ok, evs_nil, bind_ok, bind_ok, bind_ok, if_pos (by exact sz2), bind_ok, cE, hq, ofO_some]
  have s3 : ev T (F k) (.bin .Mult (.lst (.cons (.tup (.cons (.int 0) (.cons (.int 1) .nil))) .nil)) (.int 4)) (slB m p3 (some (fr q)) p5) M = .ok (.lst z4) M := by
    simp [sz2, h1, hr]
  have s4 : ev T (F k) (.lst .nil) (slB m p3 (some (fr q)) p5) M = .ok (.lst []) M := by
    simp
  unfold lbBurst
  by_cases h : q = 0
  · refine ⟨b4 ++ z4, ?_, by decide, by decide, fun x hx => hx⟩
    rw [ev_bin, s1, bind_ok, ev_ifE, s2, bind_ok, decide_eq_true h, ifK_t, s3, bind_ok, ha1, ofO_some]
  · refine ⟨b4, ?_, by decide, by decide, fun x hx => List.mem_append.mpr (.inl hx)⟩
    rw [ev_bin, s1, bind_ok, ev_ifE, s2, bind_ok, decide_eq_false h, ifK_f, s4, bind_ok, ha2, ofO_some]
theorem e_lb (k m : Nat) (xs : List PV) (hxl : xs.length < 1000) (p3 p4 p5 : Option PV) (M : Store) (h : Bag [some (.lst xs)] M) :
    ∃ p M' q4 q5, exs T (F (k + 3)) lbBody (slB m p3 p4 p5) M = .nx (slB m p3 q4 q5) M' ∧ Bag [some (.lst (xs ++ [.tup [fr p.1, fr p.2]]))] M' ∧ BdM p := by
  obtain ⟨q, M1, e1, hb1, hq⟩ := b_rate k h
  obtain ⟨ys, e2, y1, y2, y3⟩ := e_lbBurst (k + 3) m q p3 p5 M1
  obtain ⟨y, M2, e3, hb2, hy⟩ := b_some (k + 1) hb1 ys y1 y2
  obtain ⟨b, rfl, hbq⟩ := b4_ok y (y3 y hy)
  have hz : 1000 ≤ sizeLine := by decide
  have ha := bmAppend (p := .tup [fr q, fr b]) (bag_lst hb2) (by omega)
  have ht : tyM M1 (.ref 1) = true := mAppend (bag_lst hb1)
  refine ⟨(q, b), M2.set 1 (some (.lst (xs ++ [.tup [fr q, fr b]]))), some (fr q), some (.lst ys), ?_, bag_set hb2, hq, hbq⟩
  have v0 : ∀ a b c M, ev T (F (k + 3)) (.var 0) (slB m a b c) M = .ok (.ref 0) M := fun _ _ _ _ => rfl
  have v2 : ∀ a b c M, ev T (F (k + 3)) (.var 2) (slB m a b c) M = .ok (.ref 1) M := fun _ _ _ _ => rfl
  have v4 : ∀ a b c M, ev T (F (k + 3)) (.var 4) (slB m a (some b) c) M = .ok b M := fun _ _ _ _ => rfl
  have v5 : ∀ a b c M, ev T (F (k + 3)) (.var 5) (slB m a b (some c)) M = .ok c M := fun _ _ _ _ => rfl
  have s1 : ex T (F (k + 3)) (.asg (.name 4) (.call 43 (.cons (.var 0) .nil))) (slB m p3 p4 p5) M = .nx (slB m p3 (some (fr q)) p5) M1 := by
    rw [ex_asg, ev_call, evs_cons, v0, bind_ok, evs_nil, bind_ok, bind_ok, e1, ofR_ok, asgK_name, if_pos (by simp [slB])]
    rfl
  have s2 : ex T (F (k + 3)) (.asg (.name 5) lbBurst) (slB m p3 (some (fr q)) p5) M1 = .nx (slB m p3 (some (fr q)) (some (.lst ys))) M1 := by
    rw [ex_asg, e2, ofR_ok, asgK_name, if_pos (by simp [slB])]
    rfl
  unfold lbBody
  rw [exs_cons, s1, seq_nx, exs_cons, s2, seq_nx, exs_cons, ex_expr, ev_meth, v2, bind_ok, if_pos ht, evs_cons, ev_tup, evs_cons, v4, bind_ok, evs_cons, ev_call, evs_cons, v0, bind_ok, evs_cons, v5, bind_ok, evs_nil, bind_ok, bind_ok, bind_ok, e3, bind_ok, evs_nil, bind_ok, bind_ok, bind_ok, if_pos (by exact sz2), bind_ok, evs_nil, bind_ok, bind_ok, ha, ofR_ok, seq_nx, exs_nil]
theorem b_bound (k : Nat) {M : Store} (h : Bag [] M) (m : Nat) (hm : m < 900) : ∃ (bd : List (Rat × Rat)) (M' : Store), F (k + 4) 44 [.ref 0, .int (m : Int)] M = .ok (bdV bd) M' ∧ Bag [] M' ∧ bd.length = m ∧ ∀ p ∈ bd, BdM p := by
  obtain ⟨b0, b1, n, cs, rfl, hB⟩ := h
  have hb1 : Bag [some (.lst [])] ([some (.lst (bagV b0 b1 n cs))] ++ [some (.lst [])]) := ⟨b0, b1, n, cs, rfl, hB⟩
  obtain ⟨sp', M', e, hI⟩ := forR_inv (b := asg (.name 3)) (body := exs T (F (k + 3)) lbBody) (fun j : Nat => PV.int (j : Int))
    (fun i sp M' => ∃ bd : List (Rat × Rat), bd.length = i ∧ (∀ p ∈ bd, BdM p) ∧ Bag [some (.lst (bd.map fun p => .tup [fr p.1, fr p.2]))] M' ∧ ∃ p3 p4 p5, sp = slB m p3 p4 p5)
    (items := List.range m) (i := 0) (sp := slB m none none none) (M := ([some (SObj.lst (bagV b0 b1 n cs))] ++ [some (SObj.lst [])] : Store))
    ⟨[], rfl, by simp, hb1, _, _, _, rfl⟩
    (fun j t sp M' ht hI => by
      obtain ⟨bd, hbl, hbm, hbag, p3, p4, p5, rfl⟩ := hI
      obtain ⟨rfl, hlt⟩ := rng_at ht
      obtain ⟨p, M2, q4, q5, e, hb2, hp⟩ := e_lb k m (bd.map fun p => .tup [fr p.1, fr p.2]) (by simp; omega) (some (.int (t : Int))) p4 p5 M' hbag
      refine ⟨slB m (some (.int (t : Int))) p4 p5, rfl, _, _, .inl e, bd ++ [p], by simp; omega, ?_, ?_, _, _, _, rfl⟩
      · intro x hx
        rcases List.mem_append.mp hx with q | q
        · exact hbm x q
        · rw [List.mem_singleton.mp q]; exact hp
      · rw [List.map_append]
        exact hb2)
  obtain ⟨bd, hbl, hbm, hbag, p3, p4, p5, rfl⟩ := hI
  have hbl : bd.length = m := by simpa using hbl
  have hr := rngIt0 (n := m) (by omega)
  obtain ⟨M3, e3, hb3⟩ := bag_gc (p := bdV bd) hbag (by
    unfold bdV
    simp only [okRef]
    exact okRefs_map _ _ (fun p => by simp [okRef, okRefs, okRef_fr]) _)
  refine ⟨bd, M3, ?_, hb3, hbl, hbm⟩
  have e4 := biTupR (bag_lst hbag)
  have hz : ([] : List PV).length ≤ sizeLine := Nat.zero_le _
  have s1 : ex T (F (k + 3)) (.asg (.name 2) (.lstR .nil)) [some (.ref 0), some (.int (m : Int)), none, none, none, none] [some (.lst (bagV b0 b1 n cs))] = .nx (slB m none none none) ([some (.lst (bagV b0 b1 n cs))] ++ [some (.lst [])]) := by
    rw [ex_asg, ev_lstR, evs_nil, bind_ok, if_pos hz, ofR_ok, asgK_name, if_pos (by simp)]
    rfl
  have v1 : ∀ M, ev T (F (k + 3)) (.var 1) (slB m none none none) M = .ok (.int (m : Int)) M := fun _ => rfl
  have v2 : ∀ a b c M, ev T (F (k + 3)) (.var 2) (slB m a b c) M = .ok (.ref 1) M := fun _ _ _ _ => rfl
  rw [F_run (n := 4) rfl rfl rfl]
  show runK 1 (exs T (F (k + 3)) (.cons (.asg (.name 2) (.lstR .nil)) (.cons (.forS (.name 3) (.rng1 (.var 1)) lbBody) (.cons (.ret (.callB .tuple (.cons (.var 2) .nil))) .nil))) [some (.ref 0), some (.int (m : Int)), none, none, none, none] [some (.lst (bagV b0 b1 n cs))]) = _
  rw [exs_cons, s1, seq_nx, exs_cons, ex_for, evI_rng1, v1, bind_ok, rng1K_int, hr, ofO_some, ofR_ok, e, seq_nx, exs_cons, ex_ret, ev_callB, evs_cons, v2, bind_ok, evs_nil, bind_ok, bind_ok, e4, ofO_some, ofR_ok, seq_ret, runK_ret]
  show Res.ok (bdV bd) (gcM 1 M' [bdV bd]) = _
  rw [e3]
/-! ### _law_come_to -/
def ctTry : CSs := (.cons (.ret (.tup (.cons (.str "told") (.cons (.ife (.cmp .Eq (.var 0) (.int 0)) (.call 25 (.cons (.var 1) (.cons (.var 2) (.cons (.var 3) .nil)))) (.call 28 (.cons (.var 1) (.cons (.var 2) (.cons (.var 3) .nil))))) .nil)))) .nil)
def nothingV : PV := .tup [.str "nothing"]
def toldV (p : PV) : PV := .tup [.str "told", p]
theorem come_ok (k : Nat) (w : Int) (s g x r : PV) (M : Store) (h : F k (if w = 0 then 25 else 28) [s, g, x] M = .ok r M) : F (k + 1) 46 [.int w, s, g, x] M = .ok (toldV r) M := by
  have s1 : exs T (F k) ctTry [some (.int w), some s, some g, some x] M = .ret (toldV r) M := by
    unfold ctTry toldV
    by_cases hw : w = 0
    · rw [if_pos hw] at h
      simp [hw, h, sz2]
    · rw [if_neg hw] at h
      simp [hw, h, sz2]
  rw [F_run (n := 0) rfl rfl rfl]
  show runK M.length (exs T (F k) (.cons (.tryS ctTry [⟨0, none, (.ret (.tup [(.str "nothing")]))⟩]) .nil) [some (.int w), some s, some g, some x] M) = _
  rw [exs_cons, ex_try, s1, tryK_ret, seq_ret, runK_ret, gcM_self]
theorem come_exc (k : Nat) (w : Int) (s g x : PV) (M : Store) (h : F k (if w = 0 then 25 else 28) [s, g, x] M = .exc ⟨0, []⟩ M) : F (k + 1) 46 [.int w, s, g, x] M = .ok nothingV M := by
  have s1 : exs T (F k) ctTry [some (.int w), some s, some g, some x] M = .exc ⟨0, []⟩ [some (.int w), some s, some g, some x] M := by
    unfold ctTry
    by_cases hw : w = 0
    · rw [if_pos hw] at h
      simp [hw, h, sz2]
    · rw [if_neg hw] at h
      simp [hw, h, sz2]
  have s2 : runH T.exm ⟨0, []⟩ [some (.int w), some s, some g, some x] M [⟨0, none, (.ret (.tup [(.str "nothing")]))⟩] = .ret nothingV M := rfl
  rw [F_run (n := 0) rfl rfl rfl]
  show runK M.length (exs T (F k) (.cons (.tryS ctTry [⟨0, none, (.ret (.tup [(.str "nothing")]))⟩]) .nil) [some (.int w), some s, some g, some x] M) = _
  rw [exs_cons, ex_try, s1, tryK_exc, s2, seq_ret, runK_ret, gcM_self]
end My
set_option maxHeartbeats 4000000
namespace My
open PySem DI
/-! ### steps of comprehensions, by slots -/
theorem w1_self {sp : Sl} {v : Nat} {x : Option PV} (hv : v < sp.length) : ((wipeP sp [v]).set v x)[v]? = some x := by
  rw [List.getElem?_set_self]
  simp [wipeP, hv]
theorem w1_ne {sp : Sl} {v i : Nat} {x : Option PV} (h : i ≠ v) : ((wipeP sp [v]).set v x)[i]? = sp[i]? := by
  simp only [wipeP]
  rw [List.getElem?_set_ne (Ne.symm h), List.getElem?_set_ne (Ne.symm h)]
theorem w1_len {sp : Sl} {v : Nat} {x : Option PV} : ((wipeP sp [v]).set v x).length = sp.length := by simp [wipeP]
theorem step1 {Γ : Fns} {sp : Sl} {v : Nat} {elt : CE} {x y : PV} {M M' : Store} (hv : v < sp.length) (he : ev T Γ elt ((wipeP sp [v]).set v (some x)) M = .ok y M') :
    stepC (.name v) [v] (evC T Γ none) (ev T Γ elt) sp x M = .ok (some y) M' := by
  have hw : (wipeP sp [v]).length = sp.length := by simp [wipeP]
  simp only [stepC, asg, evC_none, hw, if_pos hv]
  rw [he, bind_ok]
theorem step1f {Γ : Fns} {sp : Sl} {v : Nat} {cd elt : CE} {x y : PV} {b : Bool} {M : Store} (hv : v < sp.length) (hc : ev T Γ cd ((wipeP sp [v]).set v (some x)) M = .ok (.bl b) M) (he : b = true → ev T Γ elt ((wipeP sp [v]).set v (some x)) M = .ok y M) :
    stepC (.name v) [v] (evC T Γ (some cd)) (ev T Γ elt) sp x M = .ok (if b = true then some y else none) M := by
  have hw : (wipeP sp [v]).length = sp.length := by simp [wipeP]
  simp only [stepC, asg, evC_some, hw, if_pos hv]
  rw [hc, evTr_bl]
  cases b with
  | true =>
    dsimp only
    rw [he rfl, bind_ok]
    rfl
  | false => rfl
theorem step2 {Γ : Fns} {sp : Sl} {v w : Nat} {elt : CE} {x1 x2 y : PV} {M M' : Store} (hv : v < sp.length) (hw : w < sp.length) (he : ev T Γ elt (((wipeP sp [v, w]).set v (some x1)).set w (some x2)) M = .ok y M') :
    stepC (.tup [.name v, .name w]) [v, w] (evC T Γ none) (ev T Γ elt) sp (.tup [x1, x2]) M = .ok (some y) M' := by
  have hl : (wipeP sp [v, w]).length = sp.length := by simp [wipeP]
  simp only [stepC, asg, asgs, evC_none, hl, if_pos hv, List.length_set, if_pos hw]
  rw [he, bind_ok]
theorem w2_1 {sp : Sl} {v w : Nat} {x y : Option PV} (hv : v < sp.length) (h : v ≠ w) : (((wipeP sp [v, w]).set v x).set w y)[v]? = some x := by
  rw [List.getElem?_set_ne (Ne.symm h), List.getElem?_set_self]
  simp [wipeP, hv]
theorem w2_2 {sp : Sl} {v w : Nat} {x y : Option PV} (hw : w < sp.length) : (((wipeP sp [v, w]).set v x).set w y)[w]? = some y := by
  rw [List.getElem?_set_self]
  simp [wipeP, hw]
theorem w2_ne {sp : Sl} {v w i : Nat} {x y : Option PV} (h1 : i ≠ v) (h2 : i ≠ w) : (((wipeP sp [v, w]).set v x).set w y)[i]? = sp[i]? := by
  simp only [wipeP]
  rw [List.getElem?_set_ne (Ne.symm h2), List.getElem?_set_ne (Ne.symm h1), List.getElem?_set_ne (Ne.symm h1), List.getElem?_set_ne (Ne.symm h2)]
theorem w2_len {sp : Sl} {v w : Nat} {x y : Option PV} : (((wipeP sp [v, w]).set v x).set w y).length = sp.length := by simp [wipeP]
theorem ev_at {Γ : Fns} {sp : Sl} {i : Nat} {p : PV} {M : Store} (h : sp[i]? = some (some p)) : ev T Γ (.var i) sp M = .ok p M := slot_some h
/-! ### alike -/
theorem f_alike (k : Nat) (x : PV) (n : Nat) (h : Rsz x n) (hn : n ≤ 100000) (hc : cln 60 x = true) (M : Store) : F (k + 1) 35 [x, x] M = .ok (.bl true) M := by
  have hz : 100000 ≤ sizeLine := by decide
  obtain ⟨s, e1, e2⟩ := reprP_of (M := M) h hc (by omega)
  have e1' : biP .repr M [x] = some (.str s) := e1
  have e3 : eqP M (.str s) (.str s) = some (.bl true) := eqP_same (by simpa [cln] using e2)
  have e4 := eqP_same (M := M) hc
  rw [F_run (n := 0) rfl rfl rfl]
  simp [e1', e3, e4]
theorem Rsz.told : Rsz (.str "told") 10 := ⟨_, rfl, rfl, by decide +kernel, by decide +kernel⟩
theorem cln_fr (q : Rat) (n : Nat) : cln (n + 1) (fr q) = true := by
  refine cln_tup fun x hx => ?_
  simp only [List.mem_cons, List.not_mem_nil, or_false] at hx
  rcases hx with rfl | rfl <;> simp [cln]
theorem Rsz.fr {q : Rat} (h1 : q.num.natAbs < 10 ^ 20) (h2 : q.den < 10 ^ 20) : Rsz (fr q) 49 := by
  refine (Rsz.tup (c := 21) (xs := [.int q.num, .int q.den]) fun x hx => ?_)
  simp only [List.mem_cons, List.not_mem_nil, or_false] at hx
  rcases hx with rfl | rfl
  · exact Rsz.int h1
  · exact Rsz.int (by rw [Int.natAbs_natCast]; exact h2)
theorem cln_frs (qs : List Rat) (n : Nat) : cln (n + 2) (.tup (qs.map fr)) = true := cln_tup fun x hx => by
  obtain ⟨q, _, rfl⟩ := List.mem_map.mp hx
  exact cln_fr q n
theorem cln_bdV (bd : List (Rat × Rat)) (n : Nat) : cln (n + 3) (bdV bd) = true := cln_tup fun x hx => by
  obtain ⟨p, _, rfl⟩ := List.mem_map.mp hx
  refine cln_tup fun y hy => ?_
  simp only [List.mem_cons, List.not_mem_nil, or_false] at hy
  rcases hy with rfl | rfl
  · exact cln_fr p.1 n
  · exact cln_fr p.2 n
theorem cln_told {p : PV} {n : Nat} (h : cln n p = true) : cln (n + 1) (toldV p) = true := cln_tup fun x hx => by
  simp only [List.mem_cons, List.not_mem_nil, or_false] at hx
  rcases hx with rfl | rfl
  · simp only [cln]; decide +kernel
  · exact h
theorem Rsz.toldV {p : PV} {n : Nat} (h : Rsz p n) (hn : 10 ≤ n) : Rsz (toldV p) (2 * n + 7) := by
  refine (Rsz.tup (c := n) (xs := [.str "told", p]) fun x hx => ?_).mono (by simp; omega)
  simp only [List.mem_cons, List.not_mem_nil, or_false] at hx
  rcases hx with rfl | rfl
  · exact Rsz.told.mono hn
  · exact h
/-! ### bounds of the law's numbers -/
/-- fractions that the law works with -/
def Sm (q : Rat) : Prop := 0 ≤ q ∧ q.den ≤ 10 ∧ q.num ≤ 1000
theorem Sm.num {q : Rat} (h : Sm q) : 0 ≤ q.num := Rat.num_nonneg.mpr h.1
theorem Sm.few {q : Rat} (h : Sm q) : Few q := ⟨by have := h.num; omega, by have := h.2.2; omega, by have := h.2.1; omega⟩
theorem Sm.d32 {q : Rat} (h : Sm q) : q.den < 2 ^ 32 := by have := h.2.1; omega
theorem Sm.d64 {q : Rat} (h : Sm q) : q.den < 2 ^ 64 := by have := h.2.1; omega
theorem Sm.rsz {q : Rat} (h : Sm q) : Rsz (My.fr q) 49 := by
  refine Rsz.fr ?_ (by have := h.2.1; omega)
  have h1 := h.num
  have h2 := h.2.2
  omega
theorem num_le {q : Rat} {n N : Nat} (h0 : 0 ≤ q) (hn : q.den ≤ n) (h : q * (n : Rat) ≤ (N : Rat)) : q.num ≤ (N : Int) := by
  have h1 : (q.num : Rat) = q * (q.den : Rat) := by
    have h0 : ((q.den : Int) : Rat) ≠ 0 := by
      have := q.den_nz
      simp
      exact this
    have h1 : Rat.divInt q.num q.den = q := Rat.num_divInt_den q
    rw [Rat.divInt_eq_div] at h1
    show _ = q * ((q.den : Int) : Rat)
    conv => rhs; lhs; rw [← h1]
    rw [Rat.div_mul_cancel h0]
  have h2 : (q.den : Rat) ≤ (n : Rat) := by
    show ((q.den : Int) : Rat) ≤ ((n : Int) : Rat)
    exact Rat.intCast_le_intCast.mpr (by omega)
  have h3 : q * (q.den : Rat) ≤ q * (n : Rat) := Rat.mul_le_mul_of_nonneg_left h2 h0
  have h4 : (q.num : Rat) ≤ ((N : Int) : Rat) := by
    rw [h1]
    exact Rat.le_trans h3 h
  exact Rat.intCast_le_intCast.mp h4
end My
set_option maxHeartbeats 4000000
namespace My
open PySem DI
theorem sum_bd : ∀ (l : List Int) (N : Int), (∀ y ∈ l, 0 ≤ y ∧ y ≤ N) → 0 ≤ l.sum ∧ l.sum ≤ N * l.length
  | [], N, _ => by simp
  | x :: l, N, h => by
    have h1 := h x List.mem_cons_self
    have h2 := sum_bd l N fun y hy => h y (List.mem_cons_of_mem _ hy)
    simp only [List.sum_cons, List.length_cons]
    rw [Int.natCast_add, Int.mul_add]
    omega
theorem sum_mid (pre mid post : List Int) (h : ∀ y ∈ pre ++ mid ++ post, 0 ≤ y) : mid.sum ≤ (pre ++ mid ++ post).sum := by
  have nn : ∀ l : List Int, (∀ y ∈ l, 0 ≤ y) → 0 ≤ l.sum := fun l => by
    induction l with
    | nil => intro _; simp
    | cons x l ih =>
      intro h
      have h1 := h x List.mem_cons_self
      have h2 := ih fun y hy => h y (List.mem_cons_of_mem _ hy)
      simp only [List.sum_cons]
      omega
  have h1 := nn pre fun y hy => h y (by simp [hy])
  have h2 := nn post fun y hy => h y (by simp [hy])
  simp only [List.sum_append]
  omega
theorem sum_zero : ∀ (l : List Int), (∀ y ∈ l, 0 ≤ y) → (l.sum = 0 ↔ ¬ ∃ c ∈ l, 0 < c)
  | [], _ => by simp
  | x :: l, h => by
    have h1 := h x List.mem_cons_self
    have ih := sum_zero l fun y hy => h y (List.mem_cons_of_mem _ hy)
    have hs : 0 ≤ l.sum := by
      have := sum_mid [] l [] (by simpa using fun y hy => h y (List.mem_cons_of_mem _ hy))
      have h0 : ∀ l : List Int, (∀ y ∈ l, 0 ≤ y) → 0 ≤ l.sum := fun l => by
        induction l with
        | nil => intro _; simp
        | cons x l ih =>
          intro h
          have h1 := h x List.mem_cons_self
          have h2 := ih fun y hy => h y (List.mem_cons_of_mem _ hy)
          simp only [List.sum_cons]
          omega
      exact h0 l fun y hy => h y (List.mem_cons_of_mem _ hy)
    simp only [List.sum_cons]
    constructor
    · intro e
      have e1 : x = 0 := by omega
      have e2 : l.sum = 0 := by omega
      rintro ⟨c, hc, h0⟩
      rcases List.mem_cons.mp hc with rfl | hc
      · omega
      · exact ih.mp e2 ⟨c, hc, h0⟩
    · intro e
      have e1 : ¬ 0 < x := fun h0 => e ⟨x, List.mem_cons_self, h0⟩
      have e2 := ih.mpr fun ⟨c, hc, h0⟩ => e ⟨c, List.mem_cons_of_mem _ hc, h0⟩
      omega
/-- a column of a log that the law draws -/
theorem col_bd {m ns : Nat} {log : List (List Int × Nat)} (h : LogM m ns log) {a : Nat} (ha : a < m) : ∀ y ∈ col log a, 0 ≤ y ∧ y ≤ 3 := by
  intro y hy
  unfold col at hy
  obtain ⟨t, ht, rfl⟩ := List.mem_map.mp hy
  obtain ⟨h1, h2, _⟩ := h.2 t ht
  have hlt : a < t.1.length := by omega
  rw [List.getD_eq_getElem?_getD, List.getElem?_eq_getElem hlt]
  exact h2 _ (List.getElem_mem hlt)
theorem col_len (log : List (List Int × Nat)) (a : Nat) : (col log a).length = log.length := by simp [col]
theorem mul_nn {a b : Rat} (ha : 0 ≤ a) (hb : 0 ≤ b) : 0 ≤ a * b := Rat.mul_nonneg ha hb
theorem sm_zero : Sm 0 := ⟨Rat.le_refl, by decide, by decide⟩
theorem sm_mean {m ns : Nat} {log : List (List Int × Nat)} (h : LogM m ns log) {a : Nat} (ha : a < m) : Sm (mean log a) := by
  unfold mean
  by_cases hl : log = []
  · rw [if_pos hl]; exact sm_zero
  · rw [if_neg hl]
    have hp : 0 < log.length := List.length_pos_iff.mpr hl
    obtain ⟨s0, s1⟩ := sum_bd (col log a) 3 (col_bd h ha)
    rw [col_len] at s1
    have hle := h.1
    have hz : ((log.length : Int) : Rat) ≠ 0 := by
      simp
      exact hl
    have e : Rat.divInt (col log a).sum log.length * ((log.length : Int) : Rat) = ((col log a).sum : Rat) := by
      rw [Rat.divInt_eq_div, Rat.div_mul_cancel hz]
    have h0 : 0 ≤ Rat.divInt (col log a).sum log.length := by
      rw [Rat.divInt_nonneg_iff_of_pos_right (by omega)]
      exact s0
    have hd : (Rat.divInt (col log a).sum log.length).den ≤ log.length := Over.den hp ⟨(col log a).sum, e⟩
    refine ⟨h0, by omega, ?_⟩
    have := num_le (N := 30) h0 hd (by
      show _ * ((log.length : Int) : Rat) ≤ ((30 : Int) : Rat)
      rw [e]
      exact Rat.intCast_le_intCast.mpr (by omega))
    omega
theorem kad_le {rate : Rat} (h0 : 0 ≤ rate) {cs : List Int} (hn : ∀ y ∈ cs, 0 ≤ y) : kad rate 0 0 cs ≤ ((cs.sum : Int) : Rat) := by
  have hs : 0 ≤ cs.sum := by
    have := sum_mid [] [] cs (by simpa using hn)
    simpa using this
  have hs' : (0 : Rat) ≤ ((cs.sum : Int) : Rat) := by
    show ((0 : Int) : Rat) ≤ _
    exact Rat.intCast_le_intCast.mpr hs
  rcases (kad_max rate cs).mem with e | ⟨pre, mid, post, rfl, hm, e⟩
  · rw [e]; exact hs'
  · rw [e]
    unfold val
    have h1 : ((mid.sum : Int) : Rat) ≤ (((pre ++ mid ++ post).sum : Int) : Rat) := Rat.intCast_le_intCast.mpr (sum_mid pre mid post hn)
    have h2 : 0 ≤ rate * ((mid.length : Int) : Rat) := mul_nn h0 (by
      show ((0 : Int) : Rat) ≤ _
      exact Rat.intCast_le_intCast.mpr (by omega))
    grind
theorem sm_burst {rate : Rat} (hr : Sm rate) {cs : List Int} (hb : ∀ y ∈ cs, 0 ≤ y ∧ y ≤ 3) (hl : cs.length ≤ 10) : Sm (burst rate cs) := by
  unfold burst
  split
  · exact sm_zero
  · have ho : Over rate.den (rmax 1 (kad rate 0 0 cs)) := (Over.int 1).max (kad_over rate cs 0 0 (Over.int 0) (Over.int 0))
    have hd := ho.den rate.den_pos
    have h1 : (1 : Rat) ≤ rmax 1 (kad rate 0 0 cs) := rmax_l _ _
    have h0 : (0 : Rat) ≤ rmax 1 (kad rate 0 0 cs) := by grind
    obtain ⟨s0, s1⟩ := sum_bd cs 3 hb
    have hk := kad_le hr.1 (cs := cs) fun y hy => (hb y hy).1
    have hk2 : ((cs.sum : Int) : Rat) ≤ ((30 : Int) : Rat) := Rat.intCast_le_intCast.mpr (by omega)
    have h30 : rmax 1 (kad rate 0 0 cs) ≤ ((30 : Int) : Rat) := by
      rcases rmax_or 1 (kad rate 0 0 cs) with e | e
      · rw [e]; decide +kernel
      · rw [e]; exact Rat.le_trans hk hk2
    have hr10 := hr.2.1
    refine ⟨h0, by omega, ?_⟩
    have := num_le (n := 10) (N := 300) h0 (by omega) (by
      have e : ((30 : Int) : Rat) * ((10 : Nat) : Rat) = ((300 : Nat) : Rat) := by decide +kernel
      rw [← e]
      exact Rat.mul_le_mul_of_nonneg_right h30 (by decide +kernel))
    omega
/-- rates that the law works with -/
def RsM (m : Nat) (rs : List Rat) : Prop := rs.length = m ∧ ∀ r ∈ rs, Sm r
theorem lbound_at {log : List (List Int × Nat)} {rs : List Rat} {k : Nat} {p : Rat × Rat} (h : (lbound log rs)[k]? = some p) : ∃ r, rs[k]? = some r ∧ p = (r, burst r (col log k)) := by
  unfold lbound at h
  rw [List.getElem?_map] at h
  cases hz : rs.zipIdx[k]? with
  | none => rw [hz] at h; simp at h
  | some q =>
    rw [hz] at h
    obtain ⟨hlt, rfl⟩ := zip_at hz
    simp only [Option.map_some, Option.some.injEq] at h
    exact ⟨rs[k], List.getElem?_eq_getElem hlt, h.symm⟩
theorem sm_lbound {m ns : Nat} {log : List (List Int × Nat)} {rs : List Rat} (h : LogM m ns log) (hr : RsM m rs) : ∀ p ∈ lbound log rs, Sm p.1 ∧ Sm p.2 := by
  intro p hp
  obtain ⟨k, hk, rfl⟩ := List.getElem_of_mem hp
  obtain ⟨r, h1, h2⟩ := lbound_at (List.getElem?_eq_getElem hk)
  have hm : r ∈ rs := List.mem_of_getElem? h1
  have hlt : k < m := by
    have := (List.getElem?_eq_some_iff.mp h1).1
    rw [hr.1] at this
    exact this
  rw [h2]
  exact ⟨hr.2 r hm, sm_burst (hr.2 r hm) (col_bd h hlt) (by rw [col_len]; exact h.1)⟩
theorem W_le_kad {rate : Rat} {cs : List Int} {f l : Nat} (h1 : f ≤ l) (h2 : l < cs.length) : W rate cs f l ≤ kad rate 0 0 cs := by
  refine (kad_max rate cs).win (cs.take f) ((cs.drop f).take (l + 1 - f)) ((cs.drop f).drop (l + 1 - f)) ?_ ?_
  · rw [List.append_assoc, List.take_append_drop, List.take_append_drop]
  · intro z
    have := congrArg List.length z
    simp at this
    omega
/-- the least bursts are passed by no window -/
theorem no_pass {m ns : Nat} {log : List (List Int × Nat)} {rs : List Rat} (h : LogM m ns log) (hr : RsM m rs) (l f k : Nat) : ¬ P3 log (lbound log rs) l f k := by
  rintro ⟨p, hp, h1, h2, h3⟩
  obtain ⟨r, hr1, rfl⟩ := lbound_at hp
  dsimp only at h3
  have hw := W_le_kad (rate := r) h1 h2
  unfold burst at h3
  split at h3
  · rename_i hc
    obtain ⟨rfl, hc⟩ := hc
    have hle : W 0 (col log k) f l ≤ 0 := by
      unfold W val
      have : (((col log k).drop f).take (l + 1 - f)).sum ≤ 0 := by
        have hn : ∀ y ∈ ((col log k).drop f).take (l + 1 - f), y ≤ 0 := fun y hy => by
          have hm : y ∈ col log k := List.mem_of_mem_drop (List.mem_of_mem_take hy)
          have : ¬ 0 < y := fun h0 => hc ⟨y, hm, h0⟩
          omega
        generalize ((col log k).drop f).take (l + 1 - f) = w at hn
        clear hw h3 hc
        induction w with
        | nil => simp
        | cons x w ih =>
          have h1 := hn x List.mem_cons_self
          have h2 := ih fun y hy => hn y (List.mem_cons_of_mem _ hy)
          simp only [List.sum_cons]
          omega
      have h4 : (((((col log k).drop f).take (l + 1 - f)).sum : Int) : Rat) ≤ ((0 : Int) : Rat) := Rat.intCast_le_intCast.mpr this
      have h5 : ((0 : Int) : Rat) = 0 := rfl
      grind
    grind
  · have := rmax_r 1 (kad r 0 0 (col log k))
    grind
end My
set_option maxHeartbeats 4000000
namespace My
open PySem DI
/-! ### the law's turn: means, rates, due -/
def eColL : CE := (.comp [("comes", 21), ("number", 22)] (.tup [(.name 21), (.name 22)]) (.seq (.var 6)) none (.idx (.var 21) (.var 19)))
def eMeansIn : CE := (.ife (.cmp .NotEq (.var 6) (.tup .nil)) (.call 36 (.cons (.callB .sum (.cons eColL .nil)) (.cons (.callB .len (.cons (.var 6) .nil)) .nil))) (.tup (.cons (.int 0) (.cons (.int 1) .nil))))
def eMeans : CE := (.callB .tuple (.cons (.comp [("k", 19)] (.name 19) (.rng1 (.var 4)) none eMeansIn) .nil))
theorem e_colL (Γ : Fns) (sp : Sl) (h24 : sp.length = 24) (log : List (List Int × Nat)) (a : Nat) (ha : ∀ t ∈ log, a < t.1.length) (g6 : sp[6]? = some (some (logV log))) (g19 : sp[19]? = some (some (.int (a : Int)))) (M : Store) :
    ev T Γ eColL sp M = .ok (.lst ((col log a).map .int)) M := by
  have e := comp_col (Γ := Γ) (sp := sp) (c1 := 21) (c2 := 22) (i := 19) log a ha (by omega) (by omega) g19 (by omega) (by omega) (by omega) M
  unfold eColL
  rw [ev_comp, evI_seq, ev_at g6, bind_ok, seq_log, ofO_some, bind_ok]
  show (compR [] (stepC _ [21, 22] _ _ _) (log.map turnV) M).bind _ = _
  rw [e, bind_ok]
theorem e_meansIn (k : Nat) (sp : Sl) (h24 : sp.length = 24) (m ns : Nat) (log : List (List Int × Nat)) (hl : LogM m ns log) (a : Nat) (ha : a < m) (g6 : sp[6]? = some (some (logV log))) (g19 : sp[19]? = some (some (.int (a : Int)))) (M : Store) :
    ev T (F (k + 1)) eMeansIn sp M = .ok (fr (mean log a)) M := by
  have e1 := e_colL (F (k + 1)) sp h24 log a (fun t ht => by rw [(hl.2 t ht).1]; exact ha) g6 g19 M
  have e2 := log_ne log M
  have hz : ([] : List PV).length ≤ sizeLine := Nat.zero_le _
  unfold eMeansIn mean
  rw [ev_ifE, ev_cmp, ev_at g6, bind_ok, ev_tup, evs_nil, bind_ok, if_pos hz, bind_ok, cN, e2, ofO_some, bind_ok]
  by_cases h : log = []
  · rw [if_pos h, decide_eq_true h, Bool.not_true, ifK_f, f0, ev_tup, evs_cons, ev_int, bind_ok, evs_cons, ev_int, bind_ok, evs_nil, bind_ok, bind_ok, bind_ok, if_pos (by exact sz2)]
  · have hp : 0 < log.length := List.length_pos_iff.mpr h
    have hle := hl.1
    have e3 := f_law_made k (col log a).sum log.length (by omega) (log2_len (by omega)) M
    rw [if_neg h, decide_eq_false h, Bool.not_false, ifK_t, ev_call, evs_cons, ev_callB, evs_cons, e1, bind_ok, evs_nil, bind_ok, bind_ok, biSum, ofO_some, bind_ok, evs_cons, ev_callB, evs_cons, ev_at g6, bind_ok, evs_nil, bind_ok, bind_ok, len_log, ofO_some, bind_ok, evs_nil, bind_ok, bind_ok, bind_ok]
    exact e3
theorem e_means (k : Nat) (sp : Sl) (h24 : sp.length = 24) (m ns : Nat) (hm : m < 1000) (log : List (List Int × Nat)) (hl : LogM m ns log) (g4 : sp[4]? = some (some (.int (m : Int)))) (g6 : sp[6]? = some (some (logV log))) (M : Store) :
    ev T (F (k + 1)) eMeans sp M = .ok (.tup ((means log m).map fr)) M := by
  have e1 := compR_mapA (step := stepC (.name 19) [19] (evC T (F (k + 1)) none) (ev T (F (k + 1)) eMeansIn) sp) (M := M) (fun j : Nat => PV.int (j : Int)) (fun j => fr (mean log j)) (items := List.range m) (fun a ha =>
    step1 (by omega) (e_meansIn k _ (by rw [w1_len, h24]) m ns log hl a (by simpa using ha) (by rw [w1_ne (by omega), g6]) (w1_self (by omega)) M))
  have hr := rngIt0 (n := m) (by omega)
  unfold eMeans
  rw [ev_callB, evs_cons, ev_comp, evI_rng1, ev_at g4, bind_ok, rng1K_int, hr, ofO_some, bind_ok]
  show (((compR [] (stepC _ [19] _ _ _) ((List.range m).map fun j : Nat => PV.int (j : Int)) M).bind _).bind _).bind _ = _
  rw [e1, bind_ok, bind_ok, evs_nil, bind_ok, bind_ok, biTupL, ofO_some]
  unfold means
  rw [List.map_map]
  rfl
/-! rates -/
def eRates : CE := (.call 34 (.cons (.var 1) (.cons (.lst (.cons (.var 7) (.cons (.callB .tuple (.cons (.comp [("k", 19)] (.name 19) (.rng1 (.var 4)) none (.call 43 (.cons (.var 1) .nil))) .nil)) (.cons (.bin .Mult (.tup (.cons (.tup (.cons (.int 0) (.cons (.int 1) .nil))) .nil)) (.var 4)) .nil)))) .nil)))
theorem rep_one (p : PV) (m : Nat) : repP [p] (m : Int) = List.replicate m p := by
  unfold repP
  rw [Int.toNat_natCast]
  induction m with
  | zero => rfl
  | succ m ih => rw [List.replicate_succ, List.flatten_cons, ih, List.replicate_succ]; rfl
theorem e_rates (k : Nat) {M : Store} (hM : Bag [] M) (sp : Sl) (h24 : sp.length = 24) (m ns : Nat) (hm : m < 1000) (log : List (List Int × Nat)) (hl : LogM m ns log) (g1 : sp[1]? = some (some (.ref 0))) (g4 : sp[4]? = some (some (.int (m : Int)))) (g7 : sp[7]? = some (some (.tup ((means log m).map fr)))) :
    ∃ (rs : List Rat) (M' : Store), ev T (F (k + 3)) eRates sp M = .ok (.tup (rs.map fr)) M' ∧ Bag [] M' ∧ RsM m rs := by
  obtain ⟨ys, M1, e1, hb1, hyl, hR⟩ := compR_st (fun j : Nat => PV.int (j : Int)) (Bag []) (fun _ y => ∃ q : Rat, y = fr q ∧ Sm q) (items := List.range m) (M := M)
    (step := stepC (.name 19) [19] (evC T (F (k + 3)) none) (ev T (F (k + 3)) (.call 43 (.cons (.var 1) .nil))) sp) hM (fun j _ M hM => by
      obtain ⟨q, M', e, hb, h1, h2, h3⟩ := b_rate k hM
      refine ⟨fr q, M', step1 (by omega) ?_, hb, q, rfl, h1, by omega, by omega⟩
      rw [ev_call, evs_cons, ev_at (by rw [w1_ne (by omega), g1]), bind_ok, evs_nil, bind_ok, bind_ok, e])
  obtain ⟨qs, rfl, hql, hq⟩ := lift_map fr Sm ys (mem_of_R hyl fun i x y q1 q2 => hR i x y q1 q2)
  have hqn : qs.length = m := by simpa using hyl
  have hr := rngIt0 (n := m) (by omega)
  have hz3 : 3 ≤ sizeLine := by decide
  have hz1 : 1 ≤ sizeLine := by decide
  obtain ⟨x, M2, e2, hb2, hx⟩ := b_some (k + 1) hb1 [.tup ((means log m).map fr), .tup (qs.map fr), .tup (List.replicate m (.tup [.int 0, .int 1]))] (by simp) (by simp)
  have hx2 : ∃ rs, x = .tup (rs.map fr) ∧ RsM m rs := by
    simp only [List.mem_cons, List.not_mem_nil, or_false] at hx
    rcases hx with rfl | rfl | rfl
    · refine ⟨means log m, rfl, by simp [means], fun r hr => ?_⟩
      unfold means at hr
      obtain ⟨a, ha, rfl⟩ := List.mem_map.mp hr
      exact sm_mean hl (by simpa using ha)
    · exact ⟨qs, rfl, hqn, hq⟩
    · refine ⟨List.replicate m 0, by rw [List.map_replicate, f0], by simp, fun r hr => ?_⟩
      rw [List.eq_of_mem_replicate hr]
      exact sm_zero
  obtain ⟨rs, rfl, hrs⟩ := hx2
  refine ⟨rs, M2, ?_, hb2, hrs⟩
  have s1 : ev T (F (k + 3)) (.callB .tuple (.cons (.comp [("k", 19)] (.name 19) (.rng1 (.var 4)) none (.call 43 (.cons (.var 1) .nil))) .nil)) sp M = .ok (.tup (qs.map fr)) M1 := by
    rw [ev_callB, evs_cons, ev_comp, evI_rng1, ev_at g4, bind_ok, rng1K_int, hr, ofO_some, bind_ok]
    show (((compR [] (stepC _ [19] _ _ _) ((List.range m).map fun j : Nat => PV.int (j : Int)) M).bind _).bind _).bind _ = _
    rw [e1, bind_ok, bind_ok, evs_nil, bind_ok, bind_ok, biTupL, ofO_some]
  have s2 : ev T (F (k + 3)) (.bin .Mult (.tup (.cons (.tup (.cons (.int 0) (.cons (.int 1) .nil))) .nil)) (.var 4)) sp M1 = .ok (.tup (List.replicate m (.tup [.int 0, .int 1]))) M1 := by
    rw [ev_bin, ev_tup, evs_cons, ev_tup, evs_cons, ev_int, bind_ok, evs_cons, ev_int, bind_ok, evs_nil, bind_ok, bind_ok, bind_ok, if_pos (by exact sz2), bind_ok, evs_nil, bind_ok, bind_ok, if_pos (by exact hz1), bind_ok, ev_at g4, bind_ok, bMulT (rep_ok hm), ofO_some, rep_one]
  unfold eRates
  rw [ev_call, evs_cons, ev_at g1, bind_ok, evs_cons, ev_lst, evs_cons, ev_at g7, bind_ok, evs_cons, s1, bind_ok, evs_cons, s2, bind_ok, evs_nil, bind_ok, bind_ok, bind_ok, bind_ok, if_pos (by exact hz3), bind_ok, evs_nil, bind_ok, bind_ok, bind_ok]
  exact e2
/-! due -/
def eDueIn : CE := (.tup (.cons (.var 23) (.cons (.call 47 (.cons eColL (.cons (.var 23) .nil))) .nil)))
def eDue : CE := (.callB .tuple (.cons (.comp [("k", 19), ("rate", 23)] (.tup [(.name 19), (.name 23)]) (.enum (.var 8)) none eDueIn) .nil))
theorem burst_law {r : Rat} {cs : List Int} (h : ∀ y ∈ cs, 0 ≤ y) : (if r = 0 ∧ cs.sum = 0 then (0 : Rat) else rmax 1 (kad r 0 0 cs)) = burst r cs := by
  unfold burst
  have := sum_zero cs h
  by_cases h1 : r = 0 ∧ cs.sum = 0
  · rw [if_pos h1, if_pos ⟨h1.1, this.mp h1.2⟩]
  · rw [if_neg h1, if_neg fun ⟨a, b⟩ => h1 ⟨a, this.mpr b⟩]
theorem e_due (k : Nat) (sp : Sl) (h24 : sp.length = 24) (m ns : Nat) (log : List (List Int × Nat)) (hl : LogM m ns log) (rs : List Rat) (hrs : RsM m rs) (g6 : sp[6]? = some (some (logV log))) (g8 : sp[8]? = some (some (.tup (rs.map fr)))) (M : Store) :
    ev T (F (k + 4)) eDue sp M = .ok (bdV (lbound log rs)) M := by
  have e1 := compR_mapA (step := stepC (.tup [(.name 19), (.name 23)]) [19, 23] (evC T (F (k + 4)) none) (ev T (F (k + 4)) eDueIn) sp) (M := M) (fun p : Rat × Nat => PV.tup [.int (p.2 : Int), fr p.1]) (fun p => lbE log p) (items := rs.zipIdx) (fun p hp => by
    obtain ⟨j, hj⟩ := List.getElem?_of_mem hp
    obtain ⟨hlt, hpe⟩ := zip_at hj
    have hm : p.1 ∈ rs := by rw [hpe]; exact List.getElem_mem hlt
    have h2 : p.2 < m := by rw [hpe, ← hrs.1]; exact hlt
    have hc := col_bd hl h2
    refine step2 (by omega) (by omega) ?_
    have g19 := w2_1 (sp := sp) (v := 19) (w := 23) (x := some (PV.int (p.2 : Int))) (y := some (fr p.1)) (by omega) (by omega)
    have g23 := w2_2 (sp := sp) (v := 19) (w := 23) (x := some (PV.int (p.2 : Int))) (y := some (fr p.1)) (by omega)
    have g6' := w2_ne (sp := sp) (v := 19) (w := 23) (i := 6) (x := some (PV.int (p.2 : Int))) (y := some (fr p.1)) (by omega) (by omega)
    have hlen := w2_len (sp := sp) (v := 19) (w := 23) (x := some (PV.int (p.2 : Int))) (y := some (fr p.1))
    rw [g6] at g6'
    rw [h24] at hlen
    generalize ((wipeP sp [19, 23]).set 19 (some (PV.int (p.2 : Int)))).set 23 (some (fr p.1)) = sp1 at *
    have e2 := e_colL (F (k + 4)) sp1 hlen log p.2 (fun t ht => by rw [(hl.2 t ht).1]; exact h2) g6' g19 M
    have hle := hl.1
    have e3 := f_law_burst k p.1 (col log p.2) (by rw [col_len]; omega) (hrs.2 _ hm).d64 M
    rw [burst_law (fun y hy => (hc y hy).1)] at e3
    unfold eDueIn
    rw [ev_tup, evs_cons, ev_at g23, bind_ok, evs_cons, ev_call, evs_cons, e2, bind_ok, evs_cons, ev_at g23, bind_ok, evs_nil, bind_ok, bind_ok, bind_ok, e3, bind_ok, evs_nil, bind_ok, bind_ok, bind_ok, if_pos (by exact sz2)]
    rfl)
  have hen := enumLA fr rs
  have hres : bdV (lbound log rs) = .tup (rs.zipIdx.map (lbE log)) := by
    unfold bdV lbound
    rw [List.map_map]
    rfl
  unfold eDue
  rw [ev_callB, evs_cons, ev_comp, evI_enum, ev_at g8, bind_ok, seqT, enK_some, bind_ok]
  show (((compR [] (stepC _ [19, 23] _ _ _) (enumL (rs.map fr)) M).bind _).bind _).bind _ = _
  rw [hen, e1, bind_ok, bind_ok, evs_nil, bind_ok, bind_ok, biTupL, ofO_some, hres]
/-! the first comparison -/
def eAlike1 : CE := (.call 35 (.cons (.lst (.cons (.call 21 (.cons (.var 3) (.cons (.var 6) .nil))) (.cons (.call 46 (.cons (.int 0) (.cons (.var 3) (.cons (.var 6) (.cons (.var 8) .nil))))) .nil))) (.cons (.lst (.cons (.var 7) (.cons (.tup (.cons (.str "told") (.cons (.var 9) .nil))) .nil))) .nil)))
theorem rsz_frs {qs : List Rat} (h : ∀ q ∈ qs, Sm q) (hl : qs.length ≤ 10) : Rsz (.tup (qs.map fr)) 1000 := by
  refine (Rsz.tup (c := 49) fun x hx => ?_).mono (by simp; omega)
  obtain ⟨q, hq, rfl⟩ := List.mem_map.mp hx
  exact (h q hq).rsz
theorem rsz_bdV {bd : List (Rat × Rat)} (h : ∀ p ∈ bd, Sm p.1 ∧ Sm p.2) (hl : bd.length ≤ 10) : Rsz (bdV bd) 2000 := by
  refine (Rsz.tup (c := 105) fun x hx => ?_).mono (by simp; omega)
  obtain ⟨p, hp, rfl⟩ := List.mem_map.mp hx
  refine (Rsz.tup (c := 49) fun y hy => ?_)
  simp only [List.mem_cons, List.not_mem_nil, or_false] at hy
  rcases hy with rfl | rfl
  · exact (h p hp).1.rsz
  · exact (h p hp).2.rsz
theorem e_alike1 (k : Nat) {M : Store} (hM : Bag [] M) (sp : Sl) (st : List PV) (ns : Nat) (hst : st.length ≤ 3) (log : List (List Int × Nat)) (hl : LogM st.length ns log) (rs : List Rat) (hrs : RsM st.length rs)
    (g3 : sp[3]? = some (some (.tup st))) (g6 : sp[6]? = some (some (logV log))) (g7 : sp[7]? = some (some (.tup ((means log st.length).map fr)))) (g8 : sp[8]? = some (some (.tup (rs.map fr)))) (g9 : sp[9]? = some (some (bdV (lbound log rs)))) :
    ev T (F (k + 9)) eAlike1 sp M = .ok (.bl true) M := by
  have hle := hl.1
  have e1 : F (k + 9) 21 [.tup st, logV log] M = .ok (.tup ((means log st.length).map fr)) M := f_mean (k + 6) st log (by omega) (by omega) (fun t ht => (hl.2 t ht).1) M
  have e2 : F (k + 9) 46 [.int 0, .tup st, logV log, .tup (rs.map fr)] M = .ok (toldV (bdV (lbound log rs))) M := come_ok (k + 8) 0 _ _ _ _ M (by
    rw [if_pos rfl]
    exact least_fr k st log rs hrs.1 (by omega) (fun t ht => (hl.2 t ht).1) (fun r hr => (hrs.2 r hr).1) (fun r hr => (hrs.2 r hr).d64) M (okS_bag hM))
  have hmean : ∀ q ∈ means log st.length, Sm q := fun q hq => by
    unfold means at hq
    obtain ⟨a, ha, rfl⟩ := List.mem_map.mp hq
    exact sm_mean hl (by simpa using ha)
  have hlb : (lbound log rs).length ≤ 10 := by
    unfold lbound
    have := hrs.1
    simp
    omega
  have e3 : F (k + 9) 35 [.lst [.tup ((means log st.length).map fr), toldV (bdV (lbound log rs))], .lst [.tup ((means log st.length).map fr), toldV (bdV (lbound log rs))]] M = .ok (.bl true) M := f_alike (k + 8) _ 20000 ((Rsz.lst (c := 5000) fun x hx => by
    simp only [List.mem_cons, List.not_mem_nil, or_false] at hx
    rcases hx with rfl | rfl
    · exact (rsz_frs hmean (by simp [means]; omega)).mono (by omega)
    · exact (Rsz.toldV (rsz_bdV (sm_lbound hl hrs) hlb) (by omega)).mono (by omega)).mono (by simp)) (by omega) (cln_lst fun x hx => by
    simp only [List.mem_cons, List.not_mem_nil, or_false] at hx
    rcases hx with rfl | rfl
    · exact cln_frs _ 57
    · exact cln_told (n := 58) (cln_bdV _ 55)) M
  unfold eAlike1
  rw [ev_call, evs_cons, ev_lst, evs_cons, ev_call, evs_cons, ev_at g3, bind_ok, evs_cons, ev_at g6, bind_ok, evs_nil, bind_ok, bind_ok, bind_ok, e1, bind_ok, evs_cons, ev_call, evs_cons, ev_int, bind_ok, evs_cons, ev_at g3, bind_ok, evs_cons, ev_at g6, bind_ok, evs_cons, ev_at g8, bind_ok, evs_nil, bind_ok, bind_ok, bind_ok, bind_ok, bind_ok, e2, bind_ok, evs_nil, bind_ok, bind_ok, bind_ok, if_pos (by exact sz2), bind_ok, evs_cons, ev_lst, evs_cons, ev_at g7, bind_ok, evs_cons, ev_tup, evs_cons, ev_str, bind_ok, evs_cons, ev_at g9, bind_ok, evs_nil, bind_ok, bind_ok, bind_ok, if_pos (by exact sz2), bind_ok, evs_nil, bind_ok, bind_ok, bind_ok, if_pos (by exact sz2), bind_ok, evs_nil, bind_ok, bind_ok, bind_ok]
  exact e3
end My
set_option maxHeartbeats 4000000
namespace My
open PySem DI
/-! ### the law's turn: bound, told, the bad papers -/
def eBound : CE := (.call 34 (.cons (.var 1) (.cons (.lst (.cons (.var 9) (.cons (.call 44 (.cons (.var 1) (.cons (.var 4) .nil))) (.cons (.call 44 (.cons (.var 1) (.cons (.var 4) .nil))) .nil)))) .nil)))
def BdOk (m : Nat) (bd : List (Rat × Rat)) : Prop := bd.length = m ∧ ∀ p ∈ bd, Sm p.1 ∧ Sm p.2
theorem BdM.sm {p : Rat × Rat} (h : BdM p) : Sm p.1 ∧ Sm p.2 := ⟨⟨h.1.1, by have := h.1.2.1; omega, by have := h.1.2.2; omega⟩, ⟨h.2.1, by have := h.2.2.1; omega, by have := h.2.2.2; omega⟩⟩
theorem e_bound (k : Nat) {M : Store} (hM : Bag [] M) (sp : Sl) (m : Nat) (hm : m < 900) (due : List (Rat × Rat)) (hd : BdOk m due) (g1 : sp[1]? = some (some (.ref 0))) (g4 : sp[4]? = some (some (.int (m : Int)))) (g9 : sp[9]? = some (some (bdV due))) :
    ∃ (bd : List (Rat × Rat)) (M' : Store), ev T (F (k + 4)) eBound sp M = .ok (bdV bd) M' ∧ Bag [] M' ∧ BdOk m bd ∧ (bdV bd = bdV due → bd = due) := by
  obtain ⟨b1, M1, e1, hb1, l1, q1⟩ := b_bound k hM m hm
  obtain ⟨b2, M2, e2, hb2, l2, q2⟩ := b_bound k hb1 m hm
  obtain ⟨x, M3, e3, hb3, hx⟩ := b_some (k + 2) hb2 [bdV due, bdV b1, bdV b2] (by simp) (by simp)
  have hz3 : 3 ≤ sizeLine := by decide
  have s : ev T (F (k + 4)) eBound sp M = .ok x M3 := by
    unfold eBound
    rw [ev_call, evs_cons, ev_at g1, bind_ok, evs_cons, ev_lst, evs_cons, ev_at g9, bind_ok, evs_cons, ev_call, evs_cons, ev_at g1, bind_ok, evs_cons, ev_at g4, bind_ok, evs_nil, bind_ok, bind_ok, bind_ok, e1, bind_ok, evs_cons, ev_call, evs_cons, ev_at g1, bind_ok, evs_cons, ev_at g4, bind_ok, evs_nil, bind_ok, bind_ok, bind_ok, e2, bind_ok, evs_nil, bind_ok, bind_ok, bind_ok, bind_ok, if_pos (by exact hz3), bind_ok, evs_nil, bind_ok, bind_ok, bind_ok]
    exact e3
  by_cases hxd : x = bdV due
  · exact ⟨due, M3, by rw [s, hxd], hb3, hd, fun _ => rfl⟩
  · simp only [List.mem_cons, List.not_mem_nil, or_false] at hx
    rcases hx with rfl | rfl | rfl
    · exact absurd rfl hxd
    · exact ⟨b1, M3, s, hb3, ⟨l1, fun p hp => (q1 p hp).sm⟩, fun h => absurd h hxd⟩
    · exact ⟨b2, M3, s, hb3, ⟨l2, fun p hp => (q2 p hp).sm⟩, fun h => absurd h hxd⟩
def eTold : CE := (.call 46 (.cons (.int 1) (.cons (.var 3) (.cons (.var 6) (.cons (.var 10) .nil)))))
theorem e_told (k : Nat) {M : Store} (hM : Bag [] M) (sp : Sl) (st : List PV) (ns : Nat) (hst : st.length ≤ 3) (log : List (List Int × Nat)) (hl : LogM st.length ns log) (bd : List (Rat × Rat)) (hb : BdOk st.length bd)
    (g3 : sp[3]? = some (some (.tup st))) (g6 : sp[6]? = some (some (logV log))) (g10 : sp[10]? = some (some (bdV bd))) :
    ∃ o, ev T (F (k + 11)) eTold sp M = .ok (toldV (opV3 o)) M ∧ Least3 (P3 log bd) o := by
  have hle := hl.1
  obtain ⟨o, e, ho⟩ := f_first_passed k st log bd hb.1 (by omega) (fun t ht => (hl.2 t ht).1) (by omega) (fun p hp => ⟨(hb.2 p hp).1.few, (hb.2 p hp).2.few⟩) (fun p hp => ⟨(hb.2 p hp).1.d32, (hb.2 p hp).2.d32⟩) M (okS_bag hM)
  have e2 : F (k + 11) 46 [.int 1, .tup st, logV log, bdV bd] M = .ok (toldV (opV3 o)) M := come_ok (k + 10) 1 _ _ _ _ M (by
    rw [if_neg (by omega)]
    exact e)
  refine ⟨o, ?_, ho⟩
  unfold eTold
  rw [ev_call, evs_cons, ev_int, bind_ok, evs_cons, ev_at g3, bind_ok, evs_cons, ev_at g6, bind_ok, evs_cons, ev_at g10, bind_ok, evs_nil, bind_ok, bind_ok, bind_ok, bind_ok, bind_ok, e2]
def eTest2 : CE := (.orE (.cons (.notE (.call 35 (.cons (.var 11) (.cons (.tup (.cons (.str "told") (.cons (.call 48 (.cons (.var 6) (.cons (.var 10) .nil))) .nil))) .nil)))) (.cons (.andE (.cons (.cmp .Eq (.var 10) (.var 9)) (.cons (.cmp .NotEq (.var 11) (.tup (.cons (.str "told") (.cons .non .nil)))) .nil))) .nil)))
theorem cln_opV3 (o : Option (Nat × Nat × Nat)) (n : Nat) : cln (n + 1) (opV3 o) = true := by
  cases o with
  | none => simp [opV3, cln]
  | some t =>
    obtain ⟨l, f, k⟩ := t
    exact cln_tupI _ _
theorem rsz_opV3 {m ns : Nat} {log : List (List Int × Nat)} (hl : LogM m ns log) {bd : List (Rat × Rat)} (hb : bd.length ≤ 10) {o : Option (Nat × Nat × Nat)} (ho : Least3 (P3 log bd) o) : Rsz (opV3 o) 100 := by
  cases o with
  | none => exact Rsz.non.mono (by omega)
  | some t =>
    obtain ⟨l, f, k⟩ := t
    obtain ⟨p, hp, h1, h2, _⟩ := ho.1
    have hk : k < bd.length := (List.getElem?_eq_some_iff.mp hp).1
    rw [col_len] at h2
    have hle := hl.1
    refine (Rsz.tup (c := 21) (xs := (tri l f k).map .int) fun x hx => ?_).mono (by simp [tri])
    obtain ⟨i, hi, rfl⟩ := List.mem_map.mp hx
    refine Rsz.int ?_
    simp only [tri, List.mem_cons, List.not_mem_nil, or_false] at hi
    rcases hi with rfl | rfl | rfl <;> (rw [Int.natAbs_natCast]; omega)
theorem e_test2 (k : Nat) (sp : Sl) (m ns : Nat) (hm : m ≤ 3) (log : List (List Int × Nat)) (hl : LogM m ns log) (rs : List Rat) (hrs : RsM m rs) (bd : List (Rat × Rat)) (hb : BdOk m bd) (hbd : bdV bd = bdV (lbound log rs) → bd = lbound log rs) (o : Option (Nat × Nat × Nat)) (ho : Least3 (P3 log bd) o)
    (g6 : sp[6]? = some (some (logV log))) (g9 : sp[9]? = some (some (bdV (lbound log rs)))) (g10 : sp[10]? = some (some (bdV bd))) (g11 : sp[11]? = some (some (toldV (opV3 o)))) (M : Store) :
    ev T (F (k + 4)) eTest2 sp M = .ok (.bl false) M := by
  have hle := hl.1
  obtain ⟨o', e1, ho'⟩ := f_law_passed k log bd ⟨by omega, fun t ht => by rw [(hl.2 t ht).1, hb.1], fun p hp => ⟨(hb.2 p hp).1.d32, (hb.2 p hp).2.d32⟩⟩ M
  obtain rfl := ho'.uniq ho
  have hr := rsz_opV3 hl (by rw [hb.1]; omega) ho
  have e2 : F (k + 4) 35 [toldV (opV3 o'), toldV (opV3 o')] M = .ok (.bl true) M := f_alike (k + 3) _ 1000 ((Rsz.toldV hr (by omega)).mono (by omega)) (by omega) (cln_told (n := 59) (cln_opV3 o' 58)) M
  obtain ⟨b, e3, _, hb3⟩ := eqP_cln (M := M) (cln_bdV bd 57) (cln_bdV (lbound log rs) 57)
  have s1 : ev T (F (k + 4)) (.notE (.call 35 (.cons (.var 11) (.cons (.tup (.cons (.str "told") (.cons (.call 48 (.cons (.var 6) (.cons (.var 10) .nil))) .nil))) .nil)))) sp M = .ok (.bl false) M := by
    rw [ev_not, ev_call, evs_cons, ev_at g11, bind_ok, evs_cons, ev_tup, evs_cons, ev_str, bind_ok, evs_cons, ev_call, evs_cons, ev_at g6, bind_ok, evs_cons, ev_at g10, bind_ok, evs_nil, bind_ok, bind_ok, bind_ok, e1, bind_ok, evs_nil, bind_ok, bind_ok, bind_ok, if_pos (by exact sz2), bind_ok, evs_nil, bind_ok, bind_ok, bind_ok]
    show (F (k + 4) 35 [toldV (opV3 o'), toldV (opV3 o')] M).bind _ = _
    rw [e2, bind_ok, notK_bl, Bool.not_true]
  unfold eTest2
  rw [ev_or, evOr_cons, s1, bind_ok, orK_f, evOr_one, ev_and, evAnd_cons, ev_cmp, ev_at g10, bind_ok, ev_at g9, bind_ok, cE, e3, ofO_some, bind_ok]
  cases b with
  | false => rw [andK_f]
  | true =>
    have hbe := hbd (hb3.mp rfl)
    have ho2 : o' = none := ho.uniq (by
      show Least3 (P3 log bd) none
      intro l f i
      rw [hbe]
      exact no_pass hl hrs l f i)
    subst ho2
    have e4 : neP M (toldV .non) (toldV .non) = some (.bl false) := neP_same (cln_told (n := 59) (by simp [cln]))
    rw [andK_t, evAnd_one, ev_cmp, ev_at g11, bind_ok, ev_tup, evs_cons, ev_str, bind_ok, evs_cons, ev_non, bind_ok, evs_nil, bind_ok, bind_ok, bind_ok, if_pos (by exact sz2), bind_ok, cN]
    show Res.ofO (neP M (toldV .non) (toldV .non)) M = _
    rw [e4, ofO_some]
/-! the bad papers -/
def badL (m : Nat) (rs : List Rat) (bd : List (Rat × Rat)) : List (Int × PV) :=
  [(0, .tup ((rs.map fr).drop 1)), (0, .non), (0, .tup (List.replicate m (.tup [.int (-1), .int 2]))), (0, .tup (List.replicate m (.tup [.int 2, .int 4]))), (0, .lst (rs.map fr)),
   (1, .tup ((bd.map fun p => .tup [fr p.1, fr p.2]) ++ (bd.map fun p => .tup [fr p.1, fr p.2]))), (1, .non), (1, .tup (List.replicate m (.tup [.int 1, .int 1])))]
theorem bad_no (k : Nat) (st : List PV) (L : PV) (hst : 1 ≤ st.length) (rs : List Rat) (hrs : RsM st.length rs) (bd : List (Rat × Rat)) (hb : BdOk st.length bd) (M : Store) (p : Int × PV) (hp : p ∈ badL st.length rs bd) :
    F (k + 12) 46 [.int p.1, .tup st, L, p.2] M = .ok nothingV M := by
  simp only [badL, List.mem_cons, List.not_mem_nil, or_false] at hp
  rcases hp with rfl | rfl | rfl | rfl | rfl | rfl | rfl | rfl
  · refine come_exc (k + 11) 0 _ _ _ M ?_
    rw [if_pos rfl]
    refine least_exc (k + 5) st _ L M ?_
    rw [← List.map_drop]
    have e := check_fr (k + 5) st (rs.drop 1) (fun r hr => (hrs.2 r (List.mem_of_mem_drop hr)).d64) M
    rw [if_neg] at e
    · exact e
    · rintro ⟨h, _⟩
      rw [List.length_drop, hrs.1] at h
      omega
  · refine come_exc (k + 11) 0 _ _ _ M ?_
    rw [if_pos rfl]
    exact least_exc (k + 5) st _ L M (check_no (k + 5) st _ M (tupof_non (k + 8) 5 M))
  · refine come_exc (k + 11) 0 _ _ _ M ?_
    rw [if_pos rfl]
    refine least_exc (k + 5) st _ L M ?_
    have hfr : PV.tup [.int (-1), .int 2] = fr (-1 / 2) := fr_of (by decide +kernel) (by decide +kernel)
    show F (k + 5 + 5) 24 [.tup st, .tup (List.replicate st.length (.tup [.int (-1), .int 2]))] M = _
    rw [hfr, ← List.map_replicate]
    have e := check_fr (k + 5) st (List.replicate st.length (-1 / 2)) (fun r hr => by
      rw [List.eq_of_mem_replicate hr]
      decide +kernel) M
    rw [if_neg] at e
    · exact e
    · rintro ⟨_, h⟩
      have h2 := h (-1 / 2) (by rw [List.mem_replicate]; exact ⟨by omega, rfl⟩)
      revert h2
      decide +kernel
  · refine come_exc (k + 11) 0 _ _ _ M ?_
    rw [if_pos rfl]
    refine least_exc (k + 5) st _ L M (check_no (k + 5) st _ M ?_)
    have e := tupof (k + 8) 5 (List.replicate st.length (.tup [.int 2, .int 4])) (fun _ => false) M (fun x hx => by
      rw [List.eq_of_mem_replicate hx]
      exact frac_ab (k + 5) 2 4 M)
    have e2 : (List.replicate st.length (PV.tup [.int 2, .int 4])).all (fun _ => false) = false := by
      cases hn : st.length with
      | zero => omega
      | succ n => simp [List.replicate_succ]
    rw [e2] at e
    exact e
  · refine come_exc (k + 11) 0 _ _ _ M ?_
    rw [if_pos rfl]
    exact least_exc (k + 5) st _ L M (check_no (k + 5) st _ M (tupof_lst (k + 8) 5 _ M))
  · refine come_exc (k + 11) 1 _ _ _ M ?_
    rw [if_neg (by omega), ← List.map_append]
    refine passed_len (k + 9) st _ L M ?_ (by rw [List.length_map, List.length_append, hb.1]; omega)
    exact bound_ok (k + 1) (bd ++ bd) (fun p hp => by
      rcases List.mem_append.mp hp with q | q
      · exact ⟨(hb.2 p q).1.few, (hb.2 p q).2.few⟩
      · exact ⟨(hb.2 p q).1.few, (hb.2 p q).2.few⟩) M
  · refine come_exc (k + 11) 1 _ _ _ M ?_
    rw [if_neg (by omega)]
    exact passed_exc (k + 9) st L _ M (bound_non (k + 1) M)
  · refine come_exc (k + 11) 1 _ _ _ M ?_
    rw [if_neg (by omega)]
    exact passed_exc (k + 9) st L _ M (bound_11 (k + 1) st.length hst M)
end My
set_option maxHeartbeats 4000000
namespace My
open PySem DI
theorem ev_t2 {Γ : Fns} {sp : Sl} {a b : CE} {x y : PV} {M M1 M2 : Store} (h1 : ev T Γ a sp M = .ok x M1) (h2 : ev T Γ b sp M1 = .ok y M2) : ev T Γ (.tup (.cons a (.cons b .nil))) sp M = .ok (.tup [x, y]) M2 := by
  rw [ev_tup, evs_cons, h1, bind_ok, evs_cons, h2, bind_ok, evs_nil, bind_ok, bind_ok, bind_ok, if_pos (by exact sz2)]
theorem ev_rep {Γ : Fns} {sp : Sl} {a : CE} {x : PV} {m i : Nat} {M : Store} (h1 : ev T Γ a sp M = .ok x M) (hm : m < 1000) (g4 : sp[i]? = some (some (.int (m : Int)))) : ev T Γ (.bin .Mult (.tup (.cons a .nil)) (.var i)) sp M = .ok (.tup (List.replicate m x)) M := by
  have hz1 : 1 ≤ sizeLine := by decide
  rw [ev_bin, ev_tup, evs_cons, h1, bind_ok, evs_nil, bind_ok, bind_ok, if_pos (by exact hz1), bind_ok, ev_at g4, bind_ok, bMulT (rep_ok hm), ofO_some, rep_one]
def eB1 : CE := (.slc (.var 8) (some (.int 1)) none)
def eB3 : CE := (.bin .Mult (.tup (.cons (.tup (.cons (.neg (.int 1)) (.cons (.int 2) .nil))) .nil)) (.var 4))
def eB4 : CE := (.bin .Mult (.tup (.cons (.tup (.cons (.int 2) (.cons (.int 4) .nil))) .nil)) (.var 4))
def eB8 : CE := (.bin .Mult (.tup (.cons (.tup (.cons (.int 1) (.cons (.int 1) .nil))) .nil)) (.var 4))
def eBad : CE := (.lst (.cons (.tup (.cons (.int 0) (.cons eB1 .nil))) (.cons (.tup (.cons (.int 0) (.cons .non .nil))) (.cons (.tup (.cons (.int 0) (.cons eB3 .nil))) (.cons (.tup (.cons (.int 0) (.cons eB4 .nil))) (.cons (.tup (.cons (.int 0) (.cons (.callB .list (.cons (.var 8) .nil)) .nil))) (.cons (.tup (.cons (.int 1) (.cons (.bin .Add (.var 10) (.var 10)) .nil))) (.cons (.tup (.cons (.int 1) (.cons .non .nil))) (.cons (.tup (.cons (.int 1) (.cons eB8 .nil))) .nil)))))))))
def badE (p : Int × PV) : PV := .tup [.int p.1, p.2]
theorem e_bad (Γ : Fns) (sp : Sl) (m : Nat) (hm : m ≤ 3) (rs : List Rat) (bd : List (Rat × Rat)) (hb : bd.length = m) (g4 : sp[4]? = some (some (.int (m : Int)))) (g8 : sp[8]? = some (some (.tup (rs.map fr)))) (g10 : sp[10]? = some (some (bdV bd))) (M : Store) :
    ev T Γ eBad sp M = .ok (.lst ((badL m rs bd).map badE)) M := by
  have t1 : ev T Γ eB1 sp M = .ok (.tup ((rs.map fr).drop 1)) M := by
    unfold eB1
    rw [ev_slc, ev_at g8, bind_ok, evO_some, ev_int, bind_ok, intK_int, bind_ok, evO_none, bind_ok]
    show Res.ofO (some (PV.tup (cutP (rs.map fr) (some ((1 : Nat) : Int)) none))) M = _
    rw [cut_from, ofO_some]
  have t3 : ev T Γ eB3 sp M = .ok (.tup (List.replicate m (.tup [.int (-1), .int 2]))) M := ev_rep (ev_t2 (M1 := M) (by rw [ev_neg, ev_int, bind_ok, nInt, ofO_some]) (by rw [ev_int])) (by omega) g4
  have t4 : ev T Γ eB4 sp M = .ok (.tup (List.replicate m (.tup [.int 2, .int 4]))) M := ev_rep (ev_t2 (M1 := M) (by rw [ev_int]) (by rw [ev_int])) (by omega) g4
  have t8 : ev T Γ eB8 sp M = .ok (.tup (List.replicate m (.tup [.int 1, .int 1]))) M := ev_rep (ev_t2 (M1 := M) (by rw [ev_int]) (by rw [ev_int])) (by omega) g4
  have t5 : ev T Γ (.callB .list (.cons (.var 8) .nil)) sp M = .ok (.lst (rs.map fr)) M := by
    rw [ev_callB, evs_cons, ev_at g8, bind_ok, evs_nil, bind_ok, bind_ok, biLstT, ofO_some]
  have t6 : ev T Γ (.bin .Add (.var 10) (.var 10)) sp M = .ok (.tup ((bd.map fun p => .tup [fr p.1, fr p.2]) ++ (bd.map fun p => .tup [fr p.1, fr p.2]))) M := by
    have hz : 1000 ≤ sizeLine := by decide
    rw [ev_bin, ev_at g10, bind_ok, ev_at g10, bind_ok]
    show Res.ofO (binP .Add M (.tup (bd.map fun p => .tup [fr p.1, fr p.2])) (.tup (bd.map fun p => .tup [fr p.1, fr p.2]))) M = _
    rw [bAddT (by simp; omega), ofO_some]
  have hz8 : 8 ≤ sizeLine := by decide
  have i0 : ev T Γ (.int 0) sp M = .ok (.int 0) M := ev_int
  have i1 : ev T Γ (.int 1) sp M = .ok (.int 1) M := ev_int
  have n0 : ev T Γ .non sp M = .ok .non M := ev_non
  unfold eBad
  rw [ev_lst, evs_cons, ev_t2 i0 t1, bind_ok, evs_cons, ev_t2 i0 n0, bind_ok, evs_cons, ev_t2 i0 t3, bind_ok, evs_cons, ev_t2 i0 t4, bind_ok, evs_cons, ev_t2 i0 t5, bind_ok, evs_cons, ev_t2 i1 t6, bind_ok, evs_cons, ev_t2 i1 n0, bind_ok, evs_cons, ev_t2 i1 t8, bind_ok, evs_nil, bind_ok, bind_ok, bind_ok, bind_ok, bind_ok, bind_ok, bind_ok, bind_ok, bind_ok, if_pos (by exact hz8)]
  rfl
def eBadIn : CE := (.cmp .NotEq (.call 46 (.cons (.idx (.var 20) (.int 0)) (.cons (.var 3) (.cons (.var 6) (.cons (.idx (.var 20) (.int 1)) .nil))))) (.tup (.cons (.str "nothing") .nil)))
def eBadTest : CE := (.cmp .NotEq (.comp [("one", 20)] (.name 20) (.seq (.var 12)) (some eBadIn) (.var 20)) (.lst .nil))
theorem cln_nothing : cln 60 nothingV = true := by
  refine cln_tup fun x hx => ?_
  simp only [List.mem_cons, List.not_mem_nil, or_false] at hx
  rcases hx with rfl
  simp only [cln]
  decide +kernel
theorem e_badTest (k : Nat) (sp : Sl) (h24 : sp.length = 24) (st : List PV) (L : PV) (hst : 1 ≤ st.length) (rs : List Rat) (hrs : RsM st.length rs) (bd : List (Rat × Rat)) (hb : BdOk st.length bd) (g3 : sp[3]? = some (some (.tup st))) (g6 : sp[6]? = some (some L)) (g12 : sp[12]? = some (some (.lst ((badL st.length rs bd).map badE)))) (M : Store) :
    ev T (F (k + 12)) eBadTest sp M = .ok (.bl false) M := by
  have e1 := compR_filA (step := stepC (.name 20) [20] (evC T (F (k + 12)) (some eBadIn)) (ev T (F (k + 12)) (.var 20)) sp) (M := M) badE (fun _ => false) badE (items := badL st.length rs bd) (fun p hp => by
    have e := bad_no k st L hst rs hrs bd hb M p hp
    refine step1f (by omega) ?_ (fun h => by cases h)
    have g20 := w1_self (sp := sp) (v := 20) (x := some (badE p)) (by omega)
    have g3' := w1_ne (sp := sp) (v := 20) (i := 3) (x := some (badE p)) (by omega)
    have g6' := w1_ne (sp := sp) (v := 20) (i := 6) (x := some (badE p)) (by omega)
    rw [g3] at g3'
    rw [g6] at g6'
    generalize (wipeP sp [20]).set 20 (some (badE p)) = sp1 at *
    have i0 : idxP M (badE p) (.int 0) = some (.int p.1) := idx0
    have i1 : idxP M (badE p) (.int 1) = some p.2 := idx1
    have hz1 : 1 ≤ sizeLine := by decide
    have e2 : neP M nothingV nothingV = some (.bl false) := neP_same cln_nothing
    unfold eBadIn
    rw [ev_cmp, ev_call, evs_cons, ev_idx, ev_at g20, bind_ok, ev_int, bind_ok, i0, ofO_some, bind_ok, evs_cons, ev_at g3', bind_ok, evs_cons, ev_at g6', bind_ok, evs_cons, ev_idx, ev_at g20, bind_ok, ev_int, bind_ok, i1, ofO_some, bind_ok, evs_nil, bind_ok, bind_ok, bind_ok, bind_ok, bind_ok, e, bind_ok, ev_tup, evs_cons, ev_str, bind_ok, evs_nil, bind_ok, bind_ok, if_pos (by exact hz1), bind_ok, cN]
    show Res.ofO (neP M nothingV nothingV) M = _
    rw [e2, ofO_some])
  have hnil : ((badL st.length rs bd).filter fun _ => false).map badE = [] := by simp
  rw [hnil] at e1
  have hz : ([] : List PV).length ≤ sizeLine := Nat.zero_le _
  have e3 : neP M (.lst []) (.lst []) = some (.bl false) := neP_same rfl
  unfold eBadTest
  rw [ev_cmp, ev_comp, evI_seq, ev_at g12, bind_ok, seqL, ofO_some, bind_ok]
  show ((compR [] (stepC _ [20] _ _ _) ((badL st.length rs bd).map badE) M).bind _).bind _ = _
  rw [e1, bind_ok, bind_ok, ev_lst, evs_nil, bind_ok, if_pos hz, bind_ok, cN, e3, ofO_some]
/-! frame, numbers, led -/
def eFrame : CE := (.callB .tuple (.cons (.comp [("k", 19)] (.name 19) (.rng1 (.bin .Add (.int 1) (.call 33 (.cons (.var 1) (.cons (.int 3) .nil))))) none (.call 33 (.cons (.var 1) (.cons (.callB .len (.cons (.var 5) .nil)) .nil)))) .nil))
theorem e_frame (k : Nat) {M : Store} (hM : Bag [] M) (sp : Sl) (h24 : sp.length = 24) (sv : List (List Int)) (h1 : 1 ≤ sv.length) (h2 : sv.length ≤ 4) (g1 : sp[1]? = some (some (.ref 0))) (g5 : sp[5]? = some (some (svV sv))) :
    ∃ (f : List Nat) (M' : Store), ev T (F (k + 1)) eFrame sp M = .ok (frV f) M' ∧ Bag [] M' ∧ f ≠ [] ∧ f.length ≤ 3 := by
  obtain ⟨v, M1, e1, hb1, v0, v1⟩ := b_take k hM 3 (by omega) (by omega)
  obtain ⟨n, hn⟩ : ∃ n : Nat, 1 + v = (n : Int) := ⟨(1 + v).toNat, by omega⟩
  have hls : ∀ M, biP .len M [svV sv] = some (.int (sv.length : Int)) := fun M => by
    unfold svV
    simp
  obtain ⟨ys, M2, e2, hb2, hl, hR⟩ := compR_st (fun j : Nat => PV.int (j : Int)) (Bag []) (fun _ y => ∃ w : Nat, y = .int (w : Int) ∧ True) (items := List.range n) (M := M1)
    (step := stepC (.name 19) [19] (evC T (F (k + 1)) none) (ev T (F (k + 1)) (.call 33 (.cons (.var 1) (.cons (.callB .len (.cons (.var 5) .nil)) .nil)))) sp) hb1 (fun j _ M hM => by
      obtain ⟨w, M', e, hb, w0, w1⟩ := b_take k hM (sv.length : Int) (by omega) (by omega)
      refine ⟨.int w, M', step1 (by omega) ?_, hb, w.toNat, by rw [Int.toNat_of_nonneg w0], trivial⟩
      rw [ev_call, evs_cons, ev_at (by rw [w1_ne (by omega), g1]), bind_ok, evs_cons, ev_callB, evs_cons, ev_at (by rw [w1_ne (by omega), g5]), bind_ok, evs_nil, bind_ok, bind_ok, hls, ofO_some, bind_ok, evs_nil, bind_ok, bind_ok, bind_ok, e])
  obtain ⟨f, rfl, hfl, _⟩ := lift_map (fun w : Nat => PV.int (w : Int)) (fun _ => True) ys (mem_of_R hl fun i x y q1 q2 => hR i x y q1 q2)
  have hlen : f.length = n := by simpa using hl
  have hr := rngIt0 (n := n) (by omega)
  refine ⟨f, M2, ?_, hb2, fun z => ?_, by omega⟩
  · have s1 : ev T (F (k + 1)) (.bin .Add (.int 1) (.call 33 (.cons (.var 1) (.cons (.int 3) .nil)))) sp M = .ok (.int (n : Int)) M1 := by
      rw [ev_bin, ev_int, bind_ok, ev_call, evs_cons, ev_at g1, bind_ok, evs_cons, ev_int, bind_ok, evs_nil, bind_ok, bind_ok, bind_ok, e1, bind_ok, bAdd, ofO_some, hn]
    unfold eFrame
    rw [ev_callB, evs_cons, ev_comp, evI_rng1, s1, bind_ok, rng1K_int, hr, ofO_some, bind_ok]
    show (((compR [] (stepC _ [19] _ _ _) ((List.range n).map fun j : Nat => PV.int (j : Int)) M1).bind _).bind _).bind _ = _
    rw [e2, bind_ok, bind_ok, evs_nil, bind_ok, bind_ok, biTupL, ofO_some]
    rfl
  · rw [z] at hlen
    simp at hlen
    omega
def numL (l : List Nat) : PV := .lst (l.map fun n : Nat => .int (n : Int))
def nums (log : List (List Int × Nat)) : List Nat := log.map fun t => t.2
theorem comp_num (Γ : Fns) (sp : Sl) (h24 : sp.length = 24) (log : List (List Int × Nat)) (i : Nat) (g : sp[i]? = some (some (logV log))) (M : Store) :
    ev T Γ (.comp [("comes", 21), ("number", 22)] (.tup [(.name 21), (.name 22)]) (.seq (.var i)) none (.var 22)) sp M = .ok (numL (nums log)) M := by
  have e1 := compR_mapA (step := stepC (.tup [(.name 21), (.name 22)]) [21, 22] (evC T Γ none) (ev T Γ (.var 22)) sp) (M := M) turnV (fun t => PV.int (t.2 : Int)) (items := log) (fun t ht =>
    step2 (by omega) (by omega) (ev_at (w2_2 (by omega))))
  rw [ev_comp, evI_seq, ev_at g, bind_ok, seq_log, ofO_some, bind_ok]
  show (compR [] (stepC _ [21, 22] _ _ _) (log.map turnV) M).bind _ = _
  rw [e1, bind_ok]
  unfold numL nums
  rw [List.map_map]
  rfl
theorem step3 {Γ : Fns} {sp : Sl} {u v w : Nat} {elt : CE} {x1 x2 x3 y : PV} {M M' : Store} (hu : u < sp.length) (hv : v < sp.length) (hw : w < sp.length) (he : ev T Γ elt ((((wipeP sp [u, v, w]).set u (some x1)).set v (some x2)).set w (some x3)) M = .ok y M') :
    stepC (.tup [.name u, .tup [.name v, .name w]]) [u, v, w] (evC T Γ none) (ev T Γ elt) sp (.tup [x1, .tup [x2, x3]]) M = .ok (some y) M' := by
  have hl : (wipeP sp [u, v, w]).length = sp.length := by simp [wipeP]
  simp only [stepC, asg, asgs, evC_none, hl, if_pos hu, List.length_set, if_pos hv, if_pos hw]
  rw [he, bind_ok]
theorem w3_1 {sp : Sl} {u v w : Nat} {x y z : Option PV} (hu : u < sp.length) (h1 : u ≠ v) (h2 : u ≠ w) : ((((wipeP sp [u, v, w]).set u x).set v y).set w z)[u]? = some x := by
  rw [List.getElem?_set_ne (Ne.symm h2), List.getElem?_set_ne (Ne.symm h1), List.getElem?_set_self]
  simp [wipeP, hu]
theorem w3_2 {sp : Sl} {u v w : Nat} {x y z : Option PV} (hv : v < sp.length) (h2 : v ≠ w) : ((((wipeP sp [u, v, w]).set u x).set v y).set w z)[v]? = some y := by
  rw [List.getElem?_set_ne (Ne.symm h2), List.getElem?_set_self]
  simp [wipeP, hv]
theorem w3_ne {sp : Sl} {u v w i : Nat} {x y z : Option PV} (h1 : i ≠ u) (h2 : i ≠ v) (h3 : i ≠ w) : ((((wipeP sp [u, v, w]).set u x).set v y).set w z)[i]? = sp[i]? := by
  simp only [wipeP]
  rw [List.getElem?_set_ne (Ne.symm h3), List.getElem?_set_ne (Ne.symm h2), List.getElem?_set_ne (Ne.symm h1), List.getElem?_set_ne (Ne.symm h1), List.getElem?_set_ne (Ne.symm h2), List.getElem?_set_ne (Ne.symm h3)]
def ledOf (log : List (List Int × Nat)) (f : List Nat) : List (List Int × Nat) := log.zipIdx.map fun p => (p.1.1, f.getD (p.2 % f.length) 0)
def eLedIn : CE := (.tup (.cons (.var 21) (.cons (.idx (.var 13) (.bin .Mod (.var 19) (.callB .len (.cons (.var 13) .nil)))) .nil)))
def eLed : CE := (.callB .tuple (.cons (.comp [("k", 19), ("comes", 21), ("number", 22)] (.tup [(.name 19), (.tup [(.name 21), (.name 22)])]) (.enum (.var 6)) none eLedIn) .nil))
theorem mod_at {M : Store} {f : List Nat} (hf : f ≠ []) (i : Nat) : binP .Mod M (.int (i : Int)) (.int (f.length : Int)) = some (.int ((i % f.length : Nat) : Int)) := by
  have hp : 0 < f.length := List.length_pos_iff.mpr hf
  rw [bMod (by omega), fmodN]
theorem e_led (Γ : Fns) (sp : Sl) (h24 : sp.length = 24) (log : List (List Int × Nat)) (f : List Nat) (hf : f ≠ []) (g6 : sp[6]? = some (some (logV log))) (g13 : sp[13]? = some (some (frV f))) (M : Store) :
    ev T Γ eLed sp M = .ok (logV (ledOf log f)) M := by
  have hp : 0 < f.length := List.length_pos_iff.mpr hf
  have e1 := compR_mapA (step := stepC (.tup [(.name 19), (.tup [(.name 21), (.name 22)])]) [19, 21, 22] (evC T Γ none) (ev T Γ eLedIn) sp) (M := M) (fun p : (List Int × Nat) × Nat => PV.tup [.int (p.2 : Int), turnV p.1]) (fun p => turnV (p.1.1, f.getD (p.2 % f.length) 0)) (items := log.zipIdx) (fun p hp' => by
    have h1 : p.2 % f.length < f.length := Nat.mod_lt _ hp
    refine step3 (by omega) (by omega) (by omega) ?_
    have g19 := w3_1 (sp := sp) (u := 19) (v := 21) (w := 22) (x := some (PV.int (p.2 : Int))) (y := some (.tup (p.1.1.map .int))) (z := some (.int (p.1.2 : Int))) (by omega) (by omega) (by omega)
    have g21 := w3_2 (sp := sp) (u := 19) (v := 21) (w := 22) (x := some (PV.int (p.2 : Int))) (y := some (.tup (p.1.1.map .int))) (z := some (.int (p.1.2 : Int))) (by omega) (by omega)
    have g13' := w3_ne (sp := sp) (u := 19) (v := 21) (w := 22) (i := 13) (x := some (PV.int (p.2 : Int))) (y := some (.tup (p.1.1.map .int))) (z := some (.int (p.1.2 : Int))) (by omega) (by omega) (by omega)
    rw [g13] at g13'
    generalize (((wipeP sp [19, 21, 22]).set 19 (some (PV.int (p.2 : Int)))).set 21 (some (.tup (p.1.1.map .int)))).set 22 (some (.int (p.1.2 : Int))) = sp1 at *
    unfold eLedIn
    rw [ev_t2 (ev_at g21) (by rw [ev_idx, ev_at g13', bind_ok, ev_bin, ev_at g19, bind_ok, ev_callB, evs_cons, ev_at g13', bind_ok, evs_nil, bind_ok, bind_ok, len_fr, ofO_some, bind_ok, mod_at hf, ofO_some, bind_ok, frV_at h1, ofO_some])]
    rfl)
  have hen := enumLA turnV log
  unfold eLed
  rw [ev_callB, evs_cons, ev_comp, evI_enum, ev_at g6, bind_ok, seq_log, enK_some, bind_ok]
  show (((compR [] (stepC _ [19, 21, 22] _ _ _) (enumL (log.map turnV)) M).bind _).bind _).bind _ = _
  rw [hen, e1, bind_ok, bind_ok, evs_nil, bind_ok, bind_ok, biTupL, ofO_some]
  unfold ledOf logV
  rw [List.map_map]
  rfl
end My
set_option maxHeartbeats 4000000
namespace My
open PySem DI
/-! ### frames -/
def cands (f ns : List Nat) : List (List Nat) := [f, f ++ f, [0], ns]
def okF (o : List (List Int × Nat)) (c : List Nat) : Bool := !decide (c = []) && followsB o c
def eCands : CE := (.tup (.cons (.var 13) (.cons (.bin .Add (.var 13) (.var 13)) (.cons (.tup (.cons (.int 0) .nil)) (.cons (.callB .tuple (.cons (.var 14) .nil)) .nil)))))
theorem e_cands (Γ : Fns) (sp : Sl) (f ns : List Nat) (hf : f.length ≤ 3) (g13 : sp[13]? = some (some (frV f))) (g14 : sp[14]? = some (some (numL ns))) (M : Store) : ev T Γ eCands sp M = .ok (.tup ((cands f ns).map frV)) M := by
  have hz1 : 1 ≤ sizeLine := by decide
  have hz4 : 4 ≤ sizeLine := by decide
  have hz : 1000 ≤ sizeLine := by decide
  have t2 : ev T Γ (.bin .Add (.var 13) (.var 13)) sp M = .ok (frV (f ++ f)) M := by
    rw [ev_bin, ev_at g13, bind_ok, ev_at g13, bind_ok]
    show Res.ofO (binP .Add M (.tup (f.map fun n : Nat => .int (n : Int))) (.tup (f.map fun n : Nat => .int (n : Int)))) M = _
    rw [bAddT (by simp; omega), ofO_some, ← List.map_append]
    rfl
  have t4 : ev T Γ (.callB .tuple (.cons (.var 14) .nil)) sp M = .ok (frV ns) M := by
    rw [ev_callB, evs_cons, ev_at g14, bind_ok, evs_nil, bind_ok, bind_ok]
    rfl
  unfold eCands
  rw [ev_tup, evs_cons, ev_at g13, bind_ok, evs_cons, t2, bind_ok, evs_cons, ev_tup, evs_cons, ev_int, bind_ok, evs_nil, bind_ok, bind_ok, if_pos (by exact hz1), bind_ok, evs_cons, t4, bind_ok, evs_nil, bind_ok, bind_ok, bind_ok, bind_ok, bind_ok, if_pos (by exact hz4)]
  rfl
def eNumIn : CE := (.cmp .NotEq (.var 22) (.idx (.var 20) (.bin .Mod (.var 19) (.callB .len (.cons (.var 20) .nil)))))
def eNumOff : CE := (.comp [("k", 19), ("number", 22)] (.tup [(.name 19), (.name 22)]) (.enum (.var 17)) (some eNumIn) (.var 19))
def eOkL : CE := (.andE (.cons (.cmp .NotEq (.var 20) (.tup .nil)) (.cons (.cmp .Eq eNumOff (.lst .nil)) .nil)))
theorem step2f {Γ : Fns} {sp : Sl} {v w : Nat} {cd elt : CE} {x1 x2 y : PV} {b : Bool} {M : Store} (hv : v < sp.length) (hw : w < sp.length) (hc : ev T Γ cd (((wipeP sp [v, w]).set v (some x1)).set w (some x2)) M = .ok (.bl b) M) (he : b = true → ev T Γ elt (((wipeP sp [v, w]).set v (some x1)).set w (some x2)) M = .ok y M) :
    stepC (.tup [.name v, .name w]) [v, w] (evC T Γ (some cd)) (ev T Γ elt) sp (.tup [x1, x2]) M = .ok (if b = true then some y else none) M := by
  have hl : (wipeP sp [v, w]).length = sp.length := by simp [wipeP]
  simp only [stepC, asg, asgs, evC_some, hl, if_pos hv, List.length_set, if_pos hw]
  rw [hc, evTr_bl]
  cases b with
  | true =>
    dsimp only
    rw [he rfl, bind_ok]
    rfl
  | false => rfl
theorem cand_ne (c : List Nat) (M : Store) : neP M (frV c) (.tup []) = some (.bl (!decide (c = []))) := by
  by_cases h : c = []
  · subst h
    exact neP_same rfl
  · rw [decide_eq_false h]
    exact neP_diff (cln_frV c 59) rfl fun e => h (frV_nil.mp e)
theorem e_okL (Γ : Fns) (sp : Sl) (h24 : sp.length = 24) (o : List (List Int × Nat)) (c : List Nat) (g17 : sp[17]? = some (some (numL (nums o)))) (g20 : sp[20]? = some (some (frV c))) (M : Store) : ev T Γ eOkL sp M = .ok (.bl (okF o c)) M := by
  have hz : ([] : List PV).length ≤ sizeLine := Nat.zero_le _
  unfold eOkL okF
  rw [ev_and, evAnd_cons, ev_cmp, ev_at g20, bind_ok, ev_tup, evs_nil, bind_ok, if_pos hz, bind_ok, cN, cand_ne, ofO_some, bind_ok]
  by_cases h : c = []
  · rw [decide_eq_true h]
    rfl
  · have hp : 0 < c.length := List.length_pos_iff.mpr h
    have e1 := compR_filA (step := stepC (.tup [(.name 19), (.name 22)]) [19, 22] (evC T Γ (some eNumIn)) (ev T Γ (.var 19)) sp) (M := M) (fun p : Nat × Nat => PV.tup [.int (p.2 : Int), .int (p.1 : Int)]) (fun p => !decide (p.1 = c.getD (p.2 % c.length) 0)) (fun p => PV.int (p.2 : Int)) (items := (nums o).zipIdx) (fun p hp' => by
      have h1 : p.2 % c.length < c.length := Nat.mod_lt _ hp
      refine step2f (by omega) (by omega) ?_ fun _ => ev_at (w2_1 (by omega) (by omega))
      have g19 := w2_1 (sp := sp) (v := 19) (w := 22) (x := some (PV.int (p.2 : Int))) (y := some (.int (p.1 : Int))) (by omega) (by omega)
      have g22 := w2_2 (sp := sp) (v := 19) (w := 22) (x := some (PV.int (p.2 : Int))) (y := some (.int (p.1 : Int))) (by omega)
      have g20' := w2_ne (sp := sp) (v := 19) (w := 22) (i := 20) (x := some (PV.int (p.2 : Int))) (y := some (.int (p.1 : Int))) (by omega) (by omega)
      rw [g20] at g20'
      generalize ((wipeP sp [19, 22]).set 19 (some (PV.int (p.2 : Int)))).set 22 (some (.int (p.1 : Int))) = sp1 at *
      have h5 : neP M (.int (p.1 : Int)) (.int ((c.getD (p.2 % c.length) 0 : Nat) : Int)) = some (.bl (!decide (p.1 = c.getD (p.2 % c.length) 0))) := by
        rw [neP_int]
        congr 3
        exact decide_eq_decide.mpr (by omega)
      unfold eNumIn
      rw [ev_cmp, ev_at g22, bind_ok, ev_idx, ev_at g20', bind_ok, ev_bin, ev_at g19, bind_ok, ev_callB, evs_cons, ev_at g20', bind_ok, evs_nil, bind_ok, bind_ok, len_fr, ofO_some, bind_ok, mod_at h, ofO_some, bind_ok, frV_at h1, ofO_some, bind_ok, cN, h5, ofO_some])
    have hen := enumLA (fun n : Nat => PV.int (n : Int)) (nums o)
    have s1 : ev T Γ eNumOff sp M = .ok (.lst (((nums o).zipIdx.filter fun p => !decide (p.1 = c.getD (p.2 % c.length) 0)).map fun p => PV.int (p.2 : Int))) M := by
      unfold eNumOff
      rw [ev_comp, evI_enum, ev_at g17, bind_ok]
      show (((enK (some ⟨(nums o).map fun n : Nat => PV.int (n : Int), []⟩) M).bind _)) = _
      rw [enK_some, bind_ok]
      show (compR [] (stepC _ [19, 22] _ _ _) (enumL ((nums o).map fun n : Nat => PV.int (n : Int))) M).bind _ = _
      rw [hen, e1, bind_ok]
    have hcl : cln 60 (.lst (((nums o).zipIdx.filter fun p => !decide (p.1 = c.getD (p.2 % c.length) 0)).map fun p => PV.int (p.2 : Int))) = true := cln_lst fun x hx => by
      obtain ⟨p, _, rfl⟩ := List.mem_map.mp hx
      simp [cln]
    have hb : followsB o c = decide (((nums o).zipIdx.filter fun p => !decide (p.1 = c.getD (p.2 % c.length) 0)) = []) := by
      unfold followsB nums
      rw [List.zipIdx_map, Bool.eq_iff_iff, List.all_eq_true, decide_eq_true_iff, List.filter_eq_nil_iff]
      constructor
      · intro h p hp
        obtain ⟨q, hq, rfl⟩ := List.mem_map.mp hp
        have := h q hq
        simpa using this
      · intro h q hq
        have := h (Prod.map (fun t : List Int × Nat => t.2) id q) (List.mem_map.mpr ⟨q, hq, rfl⟩)
        simpa using this
    have s2 : ev T Γ (.cmp .Eq eNumOff (.lst .nil)) sp M = .ok (.bl (followsB o c)) M := by
      rw [ev_cmp, s1, bind_ok, ev_lst, evs_nil, bind_ok, if_pos hz, bind_ok, cE, hb]
      by_cases hn : ((nums o).zipIdx.filter fun p => !decide (p.1 = c.getD (p.2 % c.length) 0)) = []
      · rw [hn, decide_eq_true rfl, List.map_nil, eqP_same rfl, ofO_some]
      · rw [decide_eq_false hn, eqP_diff hcl rfl (fun z => hn (by simpa using z)), ofO_some]
    rw [decide_eq_false h, Bool.not_false, andK_t, evAnd_one, s2, Bool.true_and]
def eOkP : CE := (.andE (.cons (.cmp .NotEq (.var 20) (.tup .nil)) (.cons (.cmp .Is (.call 29 (.cons (.var 16) (.cons (.var 20) .nil))) (.bl true)) .nil)))
theorem e_okP (k : Nat) (sp : Sl) (o : List (List Int × Nat)) (c : List Nat) (g16 : sp[16]? = some (some (logV o))) (g20 : sp[20]? = some (some (frV c))) (M : Store) : ev T (F (k + 5)) eOkP sp M = .ok (.bl (okF o c)) M := by
  have hz : ([] : List PV).length ≤ sizeLine := Nat.zero_le _
  unfold eOkP okF
  rw [ev_and, evAnd_cons, ev_cmp, ev_at g20, bind_ok, ev_tup, evs_nil, bind_ok, if_pos hz, bind_ok, cN, cand_ne, ofO_some, bind_ok]
  by_cases h : c = []
  · rw [decide_eq_true h]
    rfl
  · have e := f_follows k o c h M
    have hi : ∀ b, isP M (.bl b) (.bl true) = some (.bl b) := fun b => by cases b <;> rfl
    rw [decide_eq_false h, Bool.not_false, andK_t, evAnd_one, ev_cmp, ev_call, evs_cons, ev_at g16, bind_ok, evs_cons, ev_at g20, bind_ok, evs_nil, bind_ok, bind_ok, bind_ok, e, bind_ok, ev_bl, bind_ok, cIs, hi, ofO_some, Bool.true_and]
def okL (o : List (List Int × Nat)) (f ns : List Nat) : PV := .lst (((cands f ns).filter (okF o)).map frV)
theorem e_dueF (Γ : Fns) (sp : Sl) (h24 : sp.length = 24) (o : List (List Int × Nat)) (f ns : List Nat) (hf : f.length ≤ 3) (cd : CE) (M : Store) (hcd : ∀ c sp1, sp1 = (wipeP sp [20]).set 20 (some (frV c)) → ev T Γ cd sp1 M = .ok (.bl (okF o c)) M) (g13 : sp[13]? = some (some (frV f))) (g14 : sp[14]? = some (some (numL ns))) :
    ev T Γ (.comp [("one", 20)] (.name 20) (.seq eCands) (some cd) (.var 20)) sp M = .ok (okL o f ns) M := by
  have e1 := compR_filA (step := stepC (.name 20) [20] (evC T Γ (some cd)) (ev T Γ (.var 20)) sp) (M := M) frV (okF o) frV (items := cands f ns) (fun c hc =>
    step1f (by omega) (hcd c _ rfl) fun _ => ev_at (w1_self (by omega)))
  rw [ev_comp, evI_seq, e_cands Γ sp f ns hf g13 g14 M, bind_ok, seqT, ofO_some, bind_ok]
  show (compR [] (stepC _ [20] _ _ _) ((cands f ns).map frV) M).bind _ = _
  rw [e1, bind_ok]
  rfl
/-! things that are no frames -/
def noFr : List PV := [.tup [], .non, .lst [.int 0], .tup [.bl true], .tup [.int (-1)], .tup [.str "a"]]
theorem no_fr (k : Nat) (L : PV) (x : PV) (hx : x ∈ noFr) (M : Store) : F (k + 5) 29 [L, x] M = .ok (.bl false) M := by
  simp only [noFr, List.mem_cons, List.not_mem_nil, or_false] at hx
  rcases hx with rfl | rfl | rfl | rfl | rfl | rfl
  · exact follows_nil k L M
  · exact follows_no k L _ M (indexes_non k M)
  · exact follows_no k L _ M (indexes_lst k _ M)
  · exact follows_no k L _ M (indexes_one k _ M (index_bl k true M))
  · exact follows_no k L _ M (indexes_one k _ M (index_int k (-1) M))
  · exact follows_no k L _ M (indexes_one k _ M (index_str k _ M))
def eNoL : CE := (.tup (.cons (.tup .nil) (.cons .non (.cons (.lst (.cons (.int 0) .nil)) (.cons (.tup (.cons (.bl true) .nil)) (.cons (.tup (.cons (.neg (.int 1)) .nil)) (.cons (.tup (.cons (.str "a") .nil)) .nil)))))))
def eNoC : CE := (.comp [("one", 20)] (.name 20) (.seq eNoL) (some (.cmp .IsNot (.call 29 (.cons (.var 16) (.cons (.var 20) .nil))) (.bl false))) (.var 20))
theorem e_noC (k : Nat) (sp : Sl) (h24 : sp.length = 24) (L : PV) (g16 : sp[16]? = some (some L)) (M : Store) : ev T (F (k + 5)) eNoC sp M = .ok (.lst []) M := by
  have hz : ([] : List PV).length ≤ sizeLine := Nat.zero_le _
  have hz1 : 1 ≤ sizeLine := by decide
  have hz6 : 6 ≤ sizeLine := by decide
  have e1 := compR_filA (step := stepC (.name 20) [20] (evC T (F (k + 5)) (some (.cmp .IsNot (.call 29 (.cons (.var 16) (.cons (.var 20) .nil))) (.bl false)))) (ev T (F (k + 5)) (.var 20)) sp) (M := M) (fun x : PV => x) (fun _ => false) (fun x => x) (items := noFr) (fun x hx => by
    refine step1f (by omega) ?_ (fun h => by cases h)
    have e := no_fr k L x hx M
    have hi : isNotP M (.bl false) (.bl false) = some (.bl false) := rfl
    rw [ev_cmp, ev_call, evs_cons, ev_at (by rw [w1_ne (by omega), g16]), bind_ok, evs_cons, ev_at (w1_self (by omega)), bind_ok, evs_nil, bind_ok, bind_ok, bind_ok, e, bind_ok, ev_bl, bind_ok, cIsNot, hi, ofO_some])
  have s1 : ev T (F (k + 5)) eNoL sp M = .ok (.tup noFr) M := by
    unfold eNoL
    rw [ev_tup, evs_cons, ev_tup, evs_nil, bind_ok, if_pos hz, bind_ok, evs_cons, ev_non, bind_ok, evs_cons, ev_lst, evs_cons, ev_int, bind_ok, evs_nil, bind_ok, bind_ok, if_pos (by exact hz1), bind_ok, evs_cons, ev_tup, evs_cons, ev_bl, bind_ok, evs_nil, bind_ok, bind_ok, if_pos (by exact hz1), bind_ok, evs_cons, ev_tup, evs_cons, ev_neg, ev_int, bind_ok, nInt, ofO_some, bind_ok, evs_nil, bind_ok, bind_ok, if_pos (by exact hz1), bind_ok, evs_cons, ev_tup, evs_cons, ev_str, bind_ok, evs_nil, bind_ok, bind_ok, if_pos (by exact hz1), bind_ok, evs_nil, bind_ok, bind_ok, bind_ok, bind_ok, bind_ok, bind_ok, bind_ok, if_pos (by exact hz6)]
    rfl
  rw [List.map_id'] at e1
  unfold eNoC
  rw [ev_comp, evI_seq, s1, bind_ok, seqT, ofO_some, bind_ok]
  show (compR [] (stepC _ [20] _ _ _) noFr M).bind _ = _
  rw [e1, bind_ok]
  rfl
def eOrF : CE := (.orE (.cons (.cmp .NotEq (.var 18) (.var 9)) (.cons (.cmp .NotEq eNoC (.lst .nil)) .nil)))
theorem cln_okL (o : List (List Int × Nat)) (f ns : List Nat) : cln 60 (okL o f ns) = true := cln_lst fun x hx => by
  obtain ⟨c, _, rfl⟩ := List.mem_map.mp hx
  exact cln_frV c 58
theorem e_orF (k : Nat) (sp : Sl) (h24 : sp.length = 24) (L : PV) (o : List (List Int × Nat)) (f ns : List Nat) (g16 : sp[16]? = some (some L)) (g9 : sp[9]? = some (some (okL o f ns))) (g18 : sp[18]? = some (some (okL o f ns))) (M : Store) : ev T (F (k + 5)) eOrF sp M = .ok (.bl false) M := by
  have hz : ([] : List PV).length ≤ sizeLine := Nat.zero_le _
  have e1 := neP_same (M := M) (cln_okL o f ns)
  have e2 : neP M (.lst []) (.lst []) = some (.bl false) := neP_same rfl
  unfold eOrF
  rw [ev_or, evOr_cons, ev_cmp, ev_at g18, bind_ok, ev_at g9, bind_ok, cN, e1, ofO_some, bind_ok, orK_f, evOr_one, ev_cmp, e_noC k sp h24 L g16 M, bind_ok, ev_lst, evs_nil, bind_ok, if_pos hz, bind_ok, cN, e2, ofO_some]
/-! the last comparison -/
def eAlike3 : CE := (.call 35 (.cons (.call 31 (.cons (.var 3) (.cons (.var 5) (.cons (.var 6) .nil)))) (.cons (.call 49 (.cons (.var 5) (.cons (.var 6) (.cons (.var 4) .nil)))) .nil)))
theorem e_alike3 (k : Nat) {M : Store} (hM : Bag [] M) (sp : Sl) (st : List PV) (hst : st.length ≤ 3) (sv : List (List Int)) (hsv : SvM st.length sv) (log : List (List Int × Nat)) (hl : LogM st.length sv.length log)
    (g3 : sp[3]? = some (some (.tup st))) (g4 : sp[4]? = some (some (.int (st.length : Int)))) (g5 : sp[5]? = some (some (svV sv))) (g6 : sp[6]? = some (some (logV log))) : ev T (F (k + 2)) eAlike3 sp M = .ok (.bl true) M := by
  have hle := hl.1
  obtain ⟨o, e1, ho⟩ := f_off k st sv log (by omega) (by omega) (fun t ht => (hl.2 t ht).2.2) hsv.ok M (okS_bag hM)
  obtain ⟨o', e2, ho'⟩ := f_law_off (k + 1) sv log st.length (by omega) (fun t ht => (hl.2 t ht).2.2) hsv.ok M
  obtain rfl := ho'.uniq ho
  have hr : Rsz (opV1 o') 100 := by
    cases o' with
    | none => exact Rsz.non.mono (by omega)
    | some j =>
      obtain ⟨t, ht, _⟩ := ho.1
      have := (List.getElem?_eq_some_iff.mp ht).1
      exact (Rsz.int (by rw [Int.natAbs_natCast]; omega)).mono (by omega)
  have hcl : cln 60 (opV1 o') = true := by
    cases o' with
    | none => simp [opV1, cln]
    | some j => simp [opV1, cln]
  have e3 := f_alike (k + 1) _ 100 hr (by omega) hcl M
  unfold eAlike3
  rw [ev_call, evs_cons, ev_call, evs_cons, ev_at g3, bind_ok, evs_cons, ev_at g5, bind_ok, evs_cons, ev_at g6, bind_ok, evs_nil, bind_ok, bind_ok, bind_ok, bind_ok, e1, bind_ok, evs_cons, ev_call, evs_cons, ev_at g5, bind_ok, evs_cons, ev_at g6, bind_ok, evs_cons, ev_at g4, bind_ok, evs_nil, bind_ok, bind_ok, bind_ok, bind_ok, e2, bind_ok, evs_nil, bind_ok, bind_ok, bind_ok]
  exact e3
end My
set_option maxHeartbeats 4000000
namespace My
open PySem DI
/-! ### the law's turn, whole -/
def slL (p0 p2 p3 p4 p5 p6 p7 p8 p9 p10 p11 p12 p13 p14 p15 p16 p17 p18 : Option PV) : Sl :=
  [p0, some (.ref 0), p2, p3, p4, p5, p6, p7, p8, p9, p10, p11, p12, p13, p14, p15, p16, p17, p18, none, none, none, none, none]
theorem asg_of {Γ : Fns} {sp sp' : Sl} {i : Nat} {e : CE} {v : PV} {M M' : Store} (he : ev T Γ e sp M = .ok v M') (hl : i < sp.length) (hs : sp.set i (some v) = sp') : ex T Γ (.asg (.name i) e) sp M = .nx sp' M' := by
  rw [ex_asg, he, ofR_ok, asgK_name, if_pos hl, hs]
theorem asgC_of {Γ : Fns} {sp sp' : Sl} {i : Nat} {own : List (Str × Nat)} {tg : CT} {it : CI} {cd : Option CE} {elt : CE} {v : PV} {M M' : Store} (he : ev T Γ (.comp own tg it cd elt) sp M = .ok v M') (hl : i < sp.length) (hs : sp.set i (some v) = sp') : ex T Γ (.asgC i own tg it cd elt) sp M = .nx sp' M' := by
  rw [ex_asgC, he, ofR_ok, asgK_name, if_pos hl, hs]
theorem ite_no {Γ : Fns} {sp : Sl} {c : CE} {a : CSs} {M : Store} (he : ev T Γ c sp M = .ok (.bl false) M) : ex T Γ (.ite c a .nil) sp M = .nx sp M := by
  rw [ex_ite, he, evTr_bl, ofR_ok, if_neg (by simp), exs_nil]
theorem not_of {Γ : Fns} {sp : Sl} {c : CE} {M : Store} (he : ev T Γ c sp M = .ok (.bl true) M) : ev T Γ (.notE c) sp M = .ok (.bl false) M := by
  rw [ev_not, he, bind_ok, notK_bl]
  rfl
def retF : CSs := (.cons (.ret (.bl false)) .nil)
def ffBody : CSs := (.cons (.asgC 9 [("one", 20)] (.name 20) (.seq eCands) (some eOkL) (.var 20)) (.cons (.asgC 18 [("one", 20)] (.name 20) (.seq eCands) (some eOkP) (.var 20)) (.cons (.ite eOrF retF .nil) .nil)))
theorem e_ff (k : Nat) (f : List Nat) (hf : f.length ≤ 3) (ns : List Nat) (o : List (List Int × Nat)) (p0 p2 p3 p4 p5 p6 p7 p8 p9 p10 p11 p12 p15 p18 : Option PV) (M : Store) :
    exs T (F (k + 5)) ffBody (slL p0 p2 p3 p4 p5 p6 p7 p8 p9 p10 p11 p12 (some (frV f)) (some (numL ns)) p15 (some (logV o)) (some (numL (nums o))) p18) M = .nx (slL p0 p2 p3 p4 p5 p6 p7 p8 (some (okL o f ns)) p10 p11 p12 (some (frV f)) (some (numL ns)) p15 (some (logV o)) (some (numL (nums o))) (some (okL o f ns))) M := by
  have s1 : ex T (F (k + 5)) (.asgC 9 [("one", 20)] (.name 20) (.seq eCands) (some eOkL) (.var 20)) (slL p0 p2 p3 p4 p5 p6 p7 p8 p9 p10 p11 p12 (some (frV f)) (some (numL ns)) p15 (some (logV o)) (some (numL (nums o))) p18) M = .nx (slL p0 p2 p3 p4 p5 p6 p7 p8 (some (okL o f ns)) p10 p11 p12 (some (frV f)) (some (numL ns)) p15 (some (logV o)) (some (numL (nums o))) p18) M :=
    asgC_of (e_dueF (F (k + 5)) _ rfl o f ns hf eOkL M (fun c sp1 hs => e_okL (F (k + 5)) sp1 (by rw [hs]; rfl) o c (by rw [hs]; rfl) (by rw [hs]; rfl) M) rfl rfl) (by simp [slL]) rfl
  have s2 : ex T (F (k + 5)) (.asgC 18 [("one", 20)] (.name 20) (.seq eCands) (some eOkP) (.var 20)) (slL p0 p2 p3 p4 p5 p6 p7 p8 (some (okL o f ns)) p10 p11 p12 (some (frV f)) (some (numL ns)) p15 (some (logV o)) (some (numL (nums o))) p18) M = .nx (slL p0 p2 p3 p4 p5 p6 p7 p8 (some (okL o f ns)) p10 p11 p12 (some (frV f)) (some (numL ns)) p15 (some (logV o)) (some (numL (nums o))) (some (okL o f ns))) M :=
    asgC_of (e_dueF (F (k + 5)) _ rfl o f ns hf eOkP M (fun c sp1 hs => e_okP k sp1 o c (by rw [hs]; rfl) (by rw [hs]; rfl) M) rfl rfl) (by simp [slL]) rfl
  have s3 := ite_no (a := retF) (e_orF k (slL p0 p2 p3 p4 p5 p6 p7 p8 (some (okL o f ns)) p10 p11 p12 (some (frV f)) (some (numL ns)) p15 (some (logV o)) (some (numL (nums o))) (some (okL o f ns))) rfl (logV o) o f ns rfl rfl rfl M)
  unfold ffBody
  rw [exs_cons, s1, seq_nx, exs_cons, s2, seq_nx, exs_cons, s3, seq_nx, exs_nil]
def eTwo : CE := (.tup (.cons (.tup (.cons (.var 6) (.cons (.var 14) .nil))) (.cons (.tup (.cons (.var 15) (.cons (.comp [("comes", 21), ("number", 22)] (.tup [(.name 21), (.name 22)]) (.seq (.var 15)) none (.var 22)) .nil))) .nil)))
theorem e_two (k : Nat) (log led : List (List Int × Nat)) (f : List Nat) (hf : f.length ≤ 3) (p0 p2 p3 p4 p5 p7 p8 p9 p10 p11 p12 p16 p17 p18 : Option PV) (M : Store) :
    ∃ q9 q16 q17 q18, ex T (F (k + 5)) (.forS (.tup [(.name 16), (.name 17)]) (.seq eTwo) ffBody) (slL p0 p2 p3 p4 p5 (some (logV log)) p7 p8 p9 p10 p11 p12 (some (frV f)) (some (numL (nums log))) (some (logV led)) p16 p17 p18) M = .nx (slL p0 p2 p3 p4 p5 (some (logV log)) p7 p8 q9 p10 p11 p12 (some (frV f)) (some (numL (nums log))) (some (logV led)) q16 q17 q18) M := by
  obtain ⟨sp', M', e, hI⟩ := forR_inv (b := asg (.tup [.name 16, .name 17])) (body := exs T (F (k + 5)) ffBody) (fun o : List (List Int × Nat) => PV.tup [logV o, numL (nums o)])
    (fun i sp M' => M' = M ∧ ∃ q9 q16 q17 q18, sp = slL p0 p2 p3 p4 p5 (some (logV log)) p7 p8 q9 p10 p11 p12 (some (frV f)) (some (numL (nums log))) (some (logV led)) q16 q17 q18)
    (items := [log, led]) (i := 0) (sp := slL p0 p2 p3 p4 p5 (some (logV log)) p7 p8 p9 p10 p11 p12 (some (frV f)) (some (numL (nums log))) (some (logV led)) p16 p17 p18) (M := M)
    ⟨rfl, _, _, _, _, rfl⟩
    (fun j o sp M' ho hI => by
      obtain ⟨rfl, q9, q16, q17, q18, rfl⟩ := hI
      exact ⟨slL p0 p2 p3 p4 p5 (some (logV log)) p7 p8 q9 p10 p11 p12 (some (frV f)) (some (numL (nums log))) (some (logV led)) (some (logV o)) (some (numL (nums o))) q18, rfl, _, _, .inl (e_ff k f hf (nums log) o p0 p2 p3 p4 p5 (some (logV log)) p7 p8 q9 p10 p11 p12 (some (logV led)) q18 M'), rfl, _, _, _, _, rfl⟩)
  obtain ⟨rfl, q9, q16, q17, q18, rfl⟩ := hI
  refine ⟨q9, q16, q17, q18, ?_⟩
  have s1 : ev T (F (k + 5)) eTwo (slL p0 p2 p3 p4 p5 (some (logV log)) p7 p8 p9 p10 p11 p12 (some (frV f)) (some (numL (nums log))) (some (logV led)) p16 p17 p18) M' = .ok (.tup ([log, led].map fun o : List (List Int × Nat) => PV.tup [logV o, numL (nums o)])) M' :=
    ev_t2 (ev_t2 (ev_at rfl) (ev_at rfl)) (ev_t2 (ev_at rfl) (comp_num (F (k + 5)) _ rfl led 15 rfl M'))
  rw [ex_for, evI_seq, s1, bind_ok, seqT, ofO_some, ofR_ok]
  exact e
def tBody : CSs := (.cons (.asg (.name 3) (.call 41 (.cons (.var 1) (.cons (.int 3) .nil)))) (.cons (.asg (.name 4) (.callB .len (.cons (.var 3) .nil))) (.cons (.asg (.name 5) (.call 42 (.cons (.var 1) (.cons (.var 4) .nil)))) (.cons (.asg (.name 6) (.call 45 (.cons (.var 1) (.cons (.var 4) (.cons (.callB .len (.cons (.var 5) .nil)) (.cons (.int 10) .nil)))))) (.cons (.asg (.name 7) eMeans) (.cons (.asg (.name 8) eRates) (.cons (.asg (.name 9) eDue) (.cons (.ite (.notE eAlike1) retF .nil) (.cons (.asg (.name 10) eBound) (.cons (.asg (.name 11) eTold) (.cons (.ite eTest2 retF .nil) (.cons (.asg (.name 12) eBad) (.cons (.ite eBadTest retF .nil) (.cons (.asg (.name 13) eFrame)
  (.cons (.asgC 14 [("comes", 21), ("number", 22)] (.tup [(.name 21), (.name 22)]) (.seq (.var 6)) none (.var 22)) (.cons (.asg (.name 15) eLed) (.cons (.forS (.tup [(.name 16), (.name 17)]) (.seq eTwo) ffBody) (.cons (.ite (.notE eAlike3) retF .nil) .nil))))))))))))))))))
theorem e_turn (k : Nat) {M : Store} (hM : Bag [] M) (p0 p2 p3 p4 p5 p6 p7 p8 p9 p10 p11 p12 p13 p14 p15 p16 p17 p18 : Option PV) :
    ∃ M' q3 q4 q5 q6 q7 q8 q9 q10 q11 q12 q13 q14 q15 q16 q17 q18, exs T (F (k + 20)) tBody (slL p0 p2 p3 p4 p5 p6 p7 p8 p9 p10 p11 p12 p13 p14 p15 p16 p17 p18) M = .nx (slL p0 p2 q3 q4 q5 q6 q7 q8 q9 q10 q11 q12 q13 q14 q15 q16 q17 q18) M' ∧ Bag [] M' := by
  obtain ⟨m, M1, e1, hb1, m1, m3⟩ := b_streams (k + 18) hM
  have e1 : F (k + 20) 41 [.ref 0, .int 3] M = .ok (.tup (abcde.take m)) M1 := e1
  have hst : (abcde.take m).length = m := by
    rw [List.length_take]
    show min m 5 = m
    omega
  generalize abcde.take m = st at *
  subst hst
  have s1 : ex T (F (k + 20)) (.asg (.name 3) (.call 41 (.cons (.var 1) (.cons (.int 3) .nil)))) (slL p0 p2 p3 p4 p5 p6 p7 p8 p9 p10 p11 p12 p13 p14 p15 p16 p17 p18) M = .nx (slL p0 p2 (some (.tup st)) p4 p5 p6 p7 p8 p9 p10 p11 p12 p13 p14 p15 p16 p17 p18) M1 :=
    asg_of (by rw [ev_call, evs_cons, ev_at (p := .ref 0) rfl, bind_ok, evs_cons, ev_int, bind_ok, evs_nil, bind_ok, bind_ok, bind_ok, e1]) (by simp [slL]) rfl
  have s2 : ex T (F (k + 20)) (.asg (.name 4) (.callB .len (.cons (.var 3) .nil))) (slL p0 p2 (some (.tup st)) p4 p5 p6 p7 p8 p9 p10 p11 p12 p13 p14 p15 p16 p17 p18) M1 = .nx (slL p0 p2 (some (.tup st)) (some (.int (st.length : Int))) p5 p6 p7 p8 p9 p10 p11 p12 p13 p14 p15 p16 p17 p18) M1 :=
    asg_of (by rw [ev_callB, evs_cons, ev_at (p := .tup st) rfl, bind_ok, evs_nil, bind_ok, bind_ok, biLenT, ofO_some]) (by simp [slL]) rfl
  obtain ⟨sv, M2, e3, hb2, hsv⟩ := b_services (k + 17) hb1 st.length m1 m3
  have e3 : F (k + 20) 42 [.ref 0, .int (st.length : Int)] M1 = .ok (svV sv) M2 := e3
  have s3 : ex T (F (k + 20)) (.asg (.name 5) (.call 42 (.cons (.var 1) (.cons (.var 4) .nil)))) (slL p0 p2 (some (.tup st)) (some (.int (st.length : Int))) p5 p6 p7 p8 p9 p10 p11 p12 p13 p14 p15 p16 p17 p18) M1 = .nx (slL p0 p2 (some (.tup st)) (some (.int (st.length : Int))) (some (svV sv)) p6 p7 p8 p9 p10 p11 p12 p13 p14 p15 p16 p17 p18) M2 :=
    asg_of (by rw [ev_call, evs_cons, ev_at (p := .ref 0) rfl, bind_ok, evs_cons, ev_at (p := .int (st.length : Int)) rfl, bind_ok, evs_nil, bind_ok, bind_ok, bind_ok, e3]) (by simp [slL]) rfl
  have hsl : 1 ≤ sv.length := List.length_pos_iff.mpr hsv.1
  have hsl4 := hsv.2.1
  obtain ⟨log, M3, e4, hb3, hlog⟩ := b_log (k + 17) hb2 st.length sv.length (by omega) hsl (by omega)
  have e4 : F (k + 20) 45 [.ref 0, .int (st.length : Int), .int (sv.length : Int), .int 10] M2 = .ok (logV log) M3 := e4
  have hls : biP .len M2 [svV sv] = some (.int (sv.length : Int)) := by
    unfold svV
    simp
  have s4 : ex T (F (k + 20)) (.asg (.name 6) (.call 45 (.cons (.var 1) (.cons (.var 4) (.cons (.callB .len (.cons (.var 5) .nil)) (.cons (.int 10) .nil)))))) (slL p0 p2 (some (.tup st)) (some (.int (st.length : Int))) (some (svV sv)) p6 p7 p8 p9 p10 p11 p12 p13 p14 p15 p16 p17 p18) M2 = .nx (slL p0 p2 (some (.tup st)) (some (.int (st.length : Int))) (some (svV sv)) (some (logV log)) p7 p8 p9 p10 p11 p12 p13 p14 p15 p16 p17 p18) M3 :=
    asg_of (by rw [ev_call, evs_cons, ev_at (p := .ref 0) rfl, bind_ok, evs_cons, ev_at (p := .int (st.length : Int)) rfl, bind_ok, evs_cons, ev_callB, evs_cons, ev_at (p := svV sv) rfl, bind_ok, evs_nil, bind_ok, bind_ok, hls, ofO_some, bind_ok, evs_cons, ev_int, bind_ok, evs_nil, bind_ok, bind_ok, bind_ok, bind_ok, bind_ok, e4]) (by simp [slL]) rfl
  have s5 : ex T (F (k + 20)) (.asg (.name 7) eMeans) (slL p0 p2 (some (.tup st)) (some (.int (st.length : Int))) (some (svV sv)) (some (logV log)) p7 p8 p9 p10 p11 p12 p13 p14 p15 p16 p17 p18) M3 = .nx (slL p0 p2 (some (.tup st)) (some (.int (st.length : Int))) (some (svV sv)) (some (logV log)) (some (.tup ((means log st.length).map fr))) p8 p9 p10 p11 p12 p13 p14 p15 p16 p17 p18) M3 :=
    asg_of (e_means (k + 19) _ rfl st.length sv.length (by omega) log hlog rfl rfl M3) (by simp [slL]) rfl
  obtain ⟨rs, M4, e6, hb4, hrs⟩ := e_rates (k + 17) hb3 (slL p0 p2 (some (.tup st)) (some (.int (st.length : Int))) (some (svV sv)) (some (logV log)) (some (.tup ((means log st.length).map fr))) p8 p9 p10 p11 p12 p13 p14 p15 p16 p17 p18) rfl st.length sv.length (by omega) log hlog rfl rfl rfl
  have s6 : ex T (F (k + 20)) (.asg (.name 8) eRates) (slL p0 p2 (some (.tup st)) (some (.int (st.length : Int))) (some (svV sv)) (some (logV log)) (some (.tup ((means log st.length).map fr))) p8 p9 p10 p11 p12 p13 p14 p15 p16 p17 p18) M3 = .nx (slL p0 p2 (some (.tup st)) (some (.int (st.length : Int))) (some (svV sv)) (some (logV log)) (some (.tup ((means log st.length).map fr))) (some (.tup (rs.map fr))) p9 p10 p11 p12 p13 p14 p15 p16 p17 p18) M4 :=
    asg_of e6 (by simp [slL]) rfl
  have s7 : ex T (F (k + 20)) (.asg (.name 9) eDue) (slL p0 p2 (some (.tup st)) (some (.int (st.length : Int))) (some (svV sv)) (some (logV log)) (some (.tup ((means log st.length).map fr))) (some (.tup (rs.map fr))) p9 p10 p11 p12 p13 p14 p15 p16 p17 p18) M4 = .nx (slL p0 p2 (some (.tup st)) (some (.int (st.length : Int))) (some (svV sv)) (some (logV log)) (some (.tup ((means log st.length).map fr))) (some (.tup (rs.map fr))) (some (bdV (lbound log rs))) p10 p11 p12 p13 p14 p15 p16 p17 p18) M4 :=
    asg_of (e_due (k + 16) _ rfl st.length sv.length log hlog rs hrs rfl rfl M4) (by simp [slL]) rfl
  have s8 := ite_no (a := retF) (not_of (e_alike1 (k + 11) hb4 (slL p0 p2 (some (.tup st)) (some (.int (st.length : Int))) (some (svV sv)) (some (logV log)) (some (.tup ((means log st.length).map fr))) (some (.tup (rs.map fr))) (some (bdV (lbound log rs))) p10 p11 p12 p13 p14 p15 p16 p17 p18) st sv.length m3 log hlog rs hrs rfl rfl rfl rfl rfl))
  have hdue : BdOk st.length (lbound log rs) := ⟨by
    have := hrs.1
    unfold lbound
    simpa using this, sm_lbound hlog hrs⟩
  obtain ⟨bd, M5, e9, hb5, hbd, hbe⟩ := e_bound (k + 16) hb4 (slL p0 p2 (some (.tup st)) (some (.int (st.length : Int))) (some (svV sv)) (some (logV log)) (some (.tup ((means log st.length).map fr))) (some (.tup (rs.map fr))) (some (bdV (lbound log rs))) p10 p11 p12 p13 p14 p15 p16 p17 p18) st.length (by omega) (lbound log rs) hdue rfl rfl rfl
  have s9 : ex T (F (k + 20)) (.asg (.name 10) eBound) (slL p0 p2 (some (.tup st)) (some (.int (st.length : Int))) (some (svV sv)) (some (logV log)) (some (.tup ((means log st.length).map fr))) (some (.tup (rs.map fr))) (some (bdV (lbound log rs))) p10 p11 p12 p13 p14 p15 p16 p17 p18) M4 = .nx (slL p0 p2 (some (.tup st)) (some (.int (st.length : Int))) (some (svV sv)) (some (logV log)) (some (.tup ((means log st.length).map fr))) (some (.tup (rs.map fr))) (some (bdV (lbound log rs))) (some (bdV bd)) p11 p12 p13 p14 p15 p16 p17 p18) M5 :=
    asg_of e9 (by simp [slL]) rfl
  obtain ⟨o, e10, ho⟩ := e_told (k + 9) hb5 (slL p0 p2 (some (.tup st)) (some (.int (st.length : Int))) (some (svV sv)) (some (logV log)) (some (.tup ((means log st.length).map fr))) (some (.tup (rs.map fr))) (some (bdV (lbound log rs))) (some (bdV bd)) p11 p12 p13 p14 p15 p16 p17 p18) st sv.length m3 log hlog bd hbd rfl rfl rfl
  have s10 : ex T (F (k + 20)) (.asg (.name 11) eTold) (slL p0 p2 (some (.tup st)) (some (.int (st.length : Int))) (some (svV sv)) (some (logV log)) (some (.tup ((means log st.length).map fr))) (some (.tup (rs.map fr))) (some (bdV (lbound log rs))) (some (bdV bd)) p11 p12 p13 p14 p15 p16 p17 p18) M5 = .nx (slL p0 p2 (some (.tup st)) (some (.int (st.length : Int))) (some (svV sv)) (some (logV log)) (some (.tup ((means log st.length).map fr))) (some (.tup (rs.map fr))) (some (bdV (lbound log rs))) (some (bdV bd)) (some (toldV (opV3 o))) p12 p13 p14 p15 p16 p17 p18) M5 :=
    asg_of e10 (by simp [slL]) rfl
  have s11 := ite_no (a := retF) (e_test2 (k + 16) (slL p0 p2 (some (.tup st)) (some (.int (st.length : Int))) (some (svV sv)) (some (logV log)) (some (.tup ((means log st.length).map fr))) (some (.tup (rs.map fr))) (some (bdV (lbound log rs))) (some (bdV bd)) (some (toldV (opV3 o))) p12 p13 p14 p15 p16 p17 p18) st.length sv.length m3 log hlog rs hrs bd hbd hbe o ho rfl rfl rfl rfl M5)
  have s12 : ex T (F (k + 20)) (.asg (.name 12) eBad) (slL p0 p2 (some (.tup st)) (some (.int (st.length : Int))) (some (svV sv)) (some (logV log)) (some (.tup ((means log st.length).map fr))) (some (.tup (rs.map fr))) (some (bdV (lbound log rs))) (some (bdV bd)) (some (toldV (opV3 o))) p12 p13 p14 p15 p16 p17 p18) M5 = .nx (slL p0 p2 (some (.tup st)) (some (.int (st.length : Int))) (some (svV sv)) (some (logV log)) (some (.tup ((means log st.length).map fr))) (some (.tup (rs.map fr))) (some (bdV (lbound log rs))) (some (bdV bd)) (some (toldV (opV3 o))) (some (.lst ((badL st.length rs bd).map badE))) p13 p14 p15 p16 p17 p18) M5 :=
    asg_of (e_bad (F (k + 20)) _ st.length m3 rs bd hbd.1 rfl rfl rfl M5) (by simp [slL]) rfl
  have s13 := ite_no (a := retF) (e_badTest (k + 8) (slL p0 p2 (some (.tup st)) (some (.int (st.length : Int))) (some (svV sv)) (some (logV log)) (some (.tup ((means log st.length).map fr))) (some (.tup (rs.map fr))) (some (bdV (lbound log rs))) (some (bdV bd)) (some (toldV (opV3 o))) (some (.lst ((badL st.length rs bd).map badE))) p13 p14 p15 p16 p17 p18) rfl st (logV log) m1 rs hrs bd hbd rfl rfl rfl M5)
  obtain ⟨f, M6, e14, hb6, hf0, hf3⟩ := e_frame (k + 19) hb5 (slL p0 p2 (some (.tup st)) (some (.int (st.length : Int))) (some (svV sv)) (some (logV log)) (some (.tup ((means log st.length).map fr))) (some (.tup (rs.map fr))) (some (bdV (lbound log rs))) (some (bdV bd)) (some (toldV (opV3 o))) (some (.lst ((badL st.length rs bd).map badE))) p13 p14 p15 p16 p17 p18) rfl sv hsl hsl4 rfl rfl
  have s14 : ex T (F (k + 20)) (.asg (.name 13) eFrame) (slL p0 p2 (some (.tup st)) (some (.int (st.length : Int))) (some (svV sv)) (some (logV log)) (some (.tup ((means log st.length).map fr))) (some (.tup (rs.map fr))) (some (bdV (lbound log rs))) (some (bdV bd)) (some (toldV (opV3 o))) (some (.lst ((badL st.length rs bd).map badE))) p13 p14 p15 p16 p17 p18) M5 = .nx (slL p0 p2 (some (.tup st)) (some (.int (st.length : Int))) (some (svV sv)) (some (logV log)) (some (.tup ((means log st.length).map fr))) (some (.tup (rs.map fr))) (some (bdV (lbound log rs))) (some (bdV bd)) (some (toldV (opV3 o))) (some (.lst ((badL st.length rs bd).map badE))) (some (frV f)) p14 p15 p16 p17 p18) M6 :=
    asg_of e14 (by simp [slL]) rfl
  have s15 : ex T (F (k + 20)) (.asgC 14 [("comes", 21), ("number", 22)] (.tup [(.name 21), (.name 22)]) (.seq (.var 6)) none (.var 22)) (slL p0 p2 (some (.tup st)) (some (.int (st.length : Int))) (some (svV sv)) (some (logV log)) (some (.tup ((means log st.length).map fr))) (some (.tup (rs.map fr))) (some (bdV (lbound log rs))) (some (bdV bd)) (some (toldV (opV3 o))) (some (.lst ((badL st.length rs bd).map badE))) (some (frV f)) p14 p15 p16 p17 p18) M6 = .nx (slL p0 p2 (some (.tup st)) (some (.int (st.length : Int))) (some (svV sv)) (some (logV log)) (some (.tup ((means log st.length).map fr))) (some (.tup (rs.map fr))) (some (bdV (lbound log rs))) (some (bdV bd)) (some (toldV (opV3 o))) (some (.lst ((badL st.length rs bd).map badE))) (some (frV f)) (some (numL (nums log))) p15 p16 p17 p18) M6 :=
    asgC_of (comp_num (F (k + 20)) _ rfl log 6 rfl M6) (by simp [slL]) rfl
  have s16 : ex T (F (k + 20)) (.asg (.name 15) eLed) (slL p0 p2 (some (.tup st)) (some (.int (st.length : Int))) (some (svV sv)) (some (logV log)) (some (.tup ((means log st.length).map fr))) (some (.tup (rs.map fr))) (some (bdV (lbound log rs))) (some (bdV bd)) (some (toldV (opV3 o))) (some (.lst ((badL st.length rs bd).map badE))) (some (frV f)) (some (numL (nums log))) p15 p16 p17 p18) M6 = .nx (slL p0 p2 (some (.tup st)) (some (.int (st.length : Int))) (some (svV sv)) (some (logV log)) (some (.tup ((means log st.length).map fr))) (some (.tup (rs.map fr))) (some (bdV (lbound log rs))) (some (bdV bd)) (some (toldV (opV3 o))) (some (.lst ((badL st.length rs bd).map badE))) (some (frV f)) (some (numL (nums log))) (some (logV (ledOf log f))) p16 p17 p18) M6 :=
    asg_of (e_led (F (k + 20)) _ rfl log f hf0 rfl rfl M6) (by simp [slL]) rfl
  obtain ⟨q9, q16, q17, q18, s17⟩ := e_two (k + 15) log (ledOf log f) f hf3 p0 p2 (some (.tup st)) (some (.int (st.length : Int))) (some (svV sv)) (some (.tup ((means log st.length).map fr))) (some (.tup (rs.map fr))) (some (bdV (lbound log rs))) (some (bdV bd)) (some (toldV (opV3 o))) (some (.lst ((badL st.length rs bd).map badE))) p16 p17 p18 M6
  have s18 := ite_no (a := retF) (not_of (e_alike3 (k + 18) hb6 (slL p0 p2 (some (.tup st)) (some (.int (st.length : Int))) (some (svV sv)) (some (logV log)) (some (.tup ((means log st.length).map fr))) (some (.tup (rs.map fr))) q9 (some (bdV bd)) (some (toldV (opV3 o))) (some (.lst ((badL st.length rs bd).map badE))) (some (frV f)) (some (numL (nums log))) (some (logV (ledOf log f))) q16 q17 q18) st m3 sv hsv log hlog rfl rfl rfl rfl))
  refine ⟨M6, some (.tup st), some (.int (st.length : Int)), some (svV sv), some (logV log), some (.tup ((means log st.length).map fr)), some (.tup (rs.map fr)), q9, some (bdV bd), some (toldV (opV3 o)), some (.lst ((badL st.length rs bd).map badE)), some (frV f), some (numL (nums log)), some (logV (ledOf log f)), q16, q17, q18, ?_, hb6⟩
  unfold tBody
  rw [exs_cons, s1, seq_nx, exs_cons, s2, seq_nx, exs_cons, s3, seq_nx, exs_cons, s4, seq_nx, exs_cons, s5, seq_nx, exs_cons, s6, seq_nx, exs_cons, s7, seq_nx, exs_cons, s8, seq_nx, exs_cons, s9, seq_nx, exs_cons, s10, seq_nx, exs_cons, s11, seq_nx, exs_cons, s12, seq_nx, exs_cons, s13, seq_nx, exs_cons, s14, seq_nx, exs_cons, s15, seq_nx, exs_cons, s16, seq_nx, exs_cons, s17, seq_nx, exs_cons, s18, seq_nx, exs_nil]
theorem law_ok : ∀ ns : List Int, ns.length ≤ 63 → ∃ M, Fn T (codesOf ents) 60 50 [.scr ns] [] = .ok (.bl true) M := by
  intro ns _
  obtain ⟨M0, e0, hb0⟩ := f_bag 58 ns
  have e0 : F (39 + 20) 32 [.scr ns] [] = .ok (.ref 0) M0 := e0
  obtain ⟨sp', M', e, hI⟩ := forR_inv (b := asg (.name 2)) (body := exs T (F (39 + 20)) tBody) (fun j : Nat => PV.int (j : Int))
    (fun i sp M' => Bag [] M' ∧ ∃ p2 p3 p4 p5 p6 p7 p8 p9 p10 p11 p12 p13 p14 p15 p16 p17 p18, sp = slL (some (.scr ns)) p2 p3 p4 p5 p6 p7 p8 p9 p10 p11 p12 p13 p14 p15 p16 p17 p18)
    (items := List.range 7) (i := 0) (sp := slL (some (.scr ns)) none none none none none none none none none none none none none none none none none) (M := M0)
    ⟨hb0, _, _, _, _, _, _, _, _, _, _, _, _, _, _, _, _, _, rfl⟩
    (fun j t sp M' ht hI => by
      obtain ⟨hb, p2, p3, p4, p5, p6, p7, p8, p9, p10, p11, p12, p13, p14, p15, p16, p17, p18, rfl⟩ := hI
      obtain ⟨M2, q3, q4, q5, q6, q7, q8, q9, q10, q11, q12, q13, q14, q15, q16, q17, q18, e, hb2⟩ := e_turn 39 hb (some (.scr ns)) (some (.int (t : Int))) p3 p4 p5 p6 p7 p8 p9 p10 p11 p12 p13 p14 p15 p16 p17 p18
      exact ⟨slL (some (.scr ns)) (some (.int (t : Int))) p3 p4 p5 p6 p7 p8 p9 p10 p11 p12 p13 p14 p15 p16 p17 p18, rfl, _, _, .inl e, hb2, _, _, _, _, _, _, _, _, _, _, _, _, _, _, _, _, _, rfl⟩)
  have hr := rngIt0 (n := 7) (by omega)
  have s1 : ex T (F (39 + 20)) (.asg (.name 1) (.call 32 (.cons (.var 0) .nil))) (([.scr ns] : List PV).map some ++ List.replicate 23 none) [] = .nx (slL (some (.scr ns)) none none none none none none none none none none none none none none none none none) M0 :=
    asg_of (by rw [ev_call, evs_cons, ev_at (p := .scr ns) rfl, bind_ok, evs_nil, bind_ok, bind_ok, e0]) (by simp) rfl
  refine ⟨gcM 0 M' [.bl true], ?_⟩
  show F (39 + 20 + 1) 50 [.scr ns] [] = _
  rw [F_run (n := 23) rfl rfl rfl]
  show runK 0 (exs T (F (39 + 20)) (.cons (.asg (.name 1) (.call 32 (.cons (.var 0) .nil))) (.cons (.forS (.name 2) (.rng1 (.int 7)) tBody) (.cons (.ret (.bl true)) .nil))) (([.scr ns] : List PV).map some ++ List.replicate 23 none) []) = _
  rw [exs_cons, s1, seq_nx, exs_cons, ex_for, evI_rng1, ev_int, bind_ok, rng1K_int]
  show runK 0 ((SRes.ofR (Res.ofO (rngIt 0 ((7 : Nat) : Int)) M0) _ _).seq _) = _
  rw [hr, ofO_some, ofR_ok]
  show runK 0 ((forR [] _ _ ((List.range 7).map fun j : Nat => PV.int (j : Int)) _ M0).seq _) = _
  rw [e, seq_nx, exs_cons, ex_ret, ev_bl, ofR_ok, seq_ret, runK_ret]
end My
open PySem PySem.W PyProof.Rows in
set_option maxHeartbeats 0 in
theorem PySem.Challenge.cw_servedever_k05_rates_and_rules_of_logs_holds : PySem.Challenge.rw_servedever_k05_rates_and_rules_of_logs.Holds := by
  w_on; o_law; k_head; (case hw => w_witness2)
  k_fill
  refine DI.walkDI (l := PySem.Challenge.rw_servedever_k05_rates_and_rules_of_logs) (k := 60) My.T (DI.codesOf My.ents) 50 rfl (by decide) rfl ⟨⟨rfl, by decide, by decide⟩, rfl⟩ rfl My.law_ok (fun w h Y => PySem.W.kIn_of Y) ?F
  case F =>
    intro w mg h KX G sa sw
    refine (fun tf => ⟨DI.tabOk_of (ents := My.ents) rfl tf KX G sa sw, DI.defsOk_of rfl tf My.binds My.checks KX G sa sw⟩) ?tf
    refine ⟨⟨?d0, ?d1, ?d2, ?d3, ?d4, ?d5, ?d6, ?d7, ?d8, ?d9, ?d10, ?d11, ?d12, ?d13, ?d14, ?d15, ?d16, ?d17, ?d18, ?d19, ?d20, ?d21, ?d22, ?d23, ?d24, ?d25, ?d26, ?d27, ?d28, ?d29, ?d30, ?d31, ?d32, ?d33, ?d34, ?d35, ?d36, ?d37, ?d38, ?d39, ?d40, ?d41, ?d42, ?d43, ?d44, ?d45, ?d46, ?d47, ?d48, ?d49, ?d50, trivial⟩, ⟨?c0, ?c1, ?c2, trivial⟩, ⟨?n0, ?n1, ?n2, ?n3, ?n4, ?n5, ?n6, ?n7, ?n8, ?n9, ?n10, ?n11, ?n12, ?n13, ?n14, ?n15, ?n16, ?n17, trivial⟩, ⟨?k0, trivial⟩, ⟨?e0, trivial⟩, ⟨?x0, trivial⟩⟩
    (case d0 => refine' DI.dfact ?zA ?zL ?zC ?zK; (case zA => k_is); (case zL => k_is); (case zC => k_is); (case zK => k_is))
    (case d1 => refine' DI.dfact ?zA ?zL ?zC ?zK; (case zA => k_is); (case zL => k_is); (case zC => k_is); (case zK => k_is))
    (case d2 => refine' DI.dfact ?zA ?zL ?zC ?zK; (case zA => k_is); (case zL => k_is); (case zC => k_is); (case zK => k_is))
    (case d3 => refine' DI.dfact ?zA ?zL ?zC ?zK; (case zA => k_is); (case zL => k_is); (case zC => k_is); (case zK => k_is))
    (case d4 => refine' DI.dfact ?zA ?zL ?zC ?zK; (case zA => k_is); (case zL => k_is); (case zC => k_is); (case zK => k_is))
    (case d5 => refine' DI.dfact ?zA ?zL ?zC ?zK; (case zA => k_is); (case zL => k_is); (case zC => k_is); (case zK => k_is))
    (case d6 => refine' DI.dfact ?zA ?zL ?zC ?zK; (case zA => k_is); (case zL => k_is); (case zC => k_is); (case zK => k_is))
    (case d7 => refine' DI.dfact ?zA ?zL ?zC ?zK; (case zA => k_is); (case zL => k_is); (case zC => k_is); (case zK => k_is))
    (case d8 => refine' DI.dfact ?zA ?zL ?zC ?zK; (case zA => k_is); (case zL => k_is); (case zC => k_is); (case zK => k_is))
    (case d9 => refine' DI.dfact ?zA ?zL ?zC ?zK; (case zA => k_is); (case zL => k_is); (case zC => k_is); (case zK => k_is))
    (case d10 => refine' DI.dfact ?zA ?zL ?zC ?zK; (case zA => k_is); (case zL => k_is); (case zC => k_is); (case zK => k_is))
    (case d11 => refine' DI.dfact ?zA ?zL ?zC ?zK; (case zA => k_is); (case zL => k_is); (case zC => k_is); (case zK => k_is))
    (case d12 => refine' DI.dfact ?zA ?zL ?zC ?zK; (case zA => k_is); (case zL => k_is); (case zC => k_is); (case zK => k_is))
    (case d13 => refine' DI.dfact ?zA ?zL ?zC ?zK; (case zA => k_is); (case zL => k_is); (case zC => k_is); (case zK => k_is))
    (case d14 => refine' DI.dfact ?zA ?zL ?zC ?zK; (case zA => k_is); (case zL => k_is); (case zC => k_is); (case zK => k_is))
    (case d15 => refine' DI.dfact ?zA ?zL ?zC ?zK; (case zA => k_is); (case zL => k_is); (case zC => k_is); (case zK => k_is))
    (case d16 => refine' DI.dfact ?zA ?zL ?zC ?zK; (case zA => k_is); (case zL => k_is); (case zC => k_is); (case zK => k_is))
    (case d17 => refine' DI.dfact ?zA ?zL ?zC ?zK; (case zA => k_is); (case zL => k_is); (case zC => k_is); (case zK => k_is))
    (case d18 => refine' DI.dfact ?zA ?zL ?zC ?zK; (case zA => k_is); (case zL => k_is); (case zC => k_is); (case zK => k_is))
    (case d19 => refine' DI.dfact ?zA ?zL ?zC ?zK; (case zA => k_is); (case zL => k_is); (case zC => k_is); (case zK => k_is))
    (case d20 => refine' DI.dfact ?zA ?zL ?zC ?zK; (case zA => k_is); (case zL => k_is); (case zC => k_is); (case zK => k_is))
    (case d21 => refine' DI.dfact ?zA ?zL ?zC ?zK; (case zA => k_is); (case zL => k_is); (case zC => k_is); (case zK => k_is))
    (case d22 => refine' DI.dfact ?zA ?zL ?zC ?zK; (case zA => k_is); (case zL => k_is); (case zC => k_is); (case zK => k_is))
    (case d23 => refine' DI.dfact ?zA ?zL ?zC ?zK; (case zA => k_is); (case zL => k_is); (case zC => k_is); (case zK => k_is))
    (case d24 => refine' DI.dfact ?zA ?zL ?zC ?zK; (case zA => k_is); (case zL => k_is); (case zC => k_is); (case zK => k_is))
    (case d25 => refine' DI.dfact ?zA ?zL ?zC ?zK; (case zA => k_is); (case zL => k_is); (case zC => k_is); (case zK => k_is))
    (case d26 => refine' DI.dfact ?zA ?zL ?zC ?zK; (case zA => k_is); (case zL => k_is); (case zC => k_is); (case zK => k_is))
    (case d27 => refine' DI.dfact ?zA ?zL ?zC ?zK; (case zA => k_is); (case zL => k_is); (case zC => k_is); (case zK => k_is))
    (case d28 => refine' DI.dfact ?zA ?zL ?zC ?zK; (case zA => k_is); (case zL => k_is); (case zC => k_is); (case zK => k_is))
    (case d29 => refine' DI.dfact ?zA ?zL ?zC ?zK; (case zA => k_is); (case zL => k_is); (case zC => k_is); (case zK => k_is))
    (case d30 => refine' DI.dfact ?zA ?zL ?zC ?zK; (case zA => k_is); (case zL => k_is); (case zC => k_is); (case zK => k_is))
    (case d31 => refine' DI.dfact ?zA ?zL ?zC ?zK; (case zA => k_is); (case zL => k_is); (case zC => k_is); (case zK => k_is))
    (case d32 => refine' DI.dfact ?zA ?zL ?zC ?zK; (case zA => k_is); (case zL => k_is); (case zC => k_is); (case zK => k_is))
    (case d33 => refine' DI.dfact ?zA ?zL ?zC ?zK; (case zA => k_is); (case zL => k_is); (case zC => k_is); (case zK => k_is))
    (case d34 => refine' DI.dfact ?zA ?zL ?zC ?zK; (case zA => k_is); (case zL => k_is); (case zC => k_is); (case zK => k_is))
    (case d35 => refine' DI.dfact ?zA ?zL ?zC ?zK; (case zA => k_is); (case zL => k_is); (case zC => k_is); (case zK => k_is))
    (case d36 => refine' DI.dfact ?zA ?zL ?zC ?zK; (case zA => k_is); (case zL => k_is); (case zC => k_is); (case zK => k_is))
    (case d37 => refine' DI.dfact ?zA ?zL ?zC ?zK; (case zA => k_is); (case zL => k_is); (case zC => k_is); (case zK => k_is))
    (case d38 => refine' DI.dfact ?zA ?zL ?zC ?zK; (case zA => k_is); (case zL => k_is); (case zC => k_is); (case zK => k_is))
    (case d39 => refine' DI.dfact ?zA ?zL ?zC ?zK; (case zA => k_is); (case zL => k_is); (case zC => k_is); (case zK => k_is))
    (case d40 => refine' DI.dfact ?zA ?zL ?zC ?zK; (case zA => k_is); (case zL => k_is); (case zC => k_is); (case zK => k_is))
    (case d41 => refine' DI.dfact ?zA ?zL ?zC ?zK; (case zA => k_is); (case zL => k_is); (case zC => k_is); (case zK => k_is))
    (case d42 => refine' DI.dfact ?zA ?zL ?zC ?zK; (case zA => k_is); (case zL => k_is); (case zC => k_is); (case zK => k_is))
    (case d43 => refine' DI.dfact ?zA ?zL ?zC ?zK; (case zA => k_is); (case zL => k_is); (case zC => k_is); (case zK => k_is))
    (case d44 => refine' DI.dfact ?zA ?zL ?zC ?zK; (case zA => k_is); (case zL => k_is); (case zC => k_is); (case zK => k_is))
    (case d45 => refine' DI.dfact ?zA ?zL ?zC ?zK; (case zA => k_is); (case zL => k_is); (case zC => k_is); (case zK => k_is))
    (case d46 => refine' DI.dfact ?zA ?zL ?zC ?zK; (case zA => k_is); (case zL => k_is); (case zC => k_is); (case zK => k_is))
    (case d47 => refine' DI.dfact ?zA ?zL ?zC ?zK; (case zA => k_is); (case zL => k_is); (case zC => k_is); (case zK => k_is))
    (case d48 => refine' DI.dfact ?zA ?zL ?zC ?zK; (case zA => k_is); (case zL => k_is); (case zC => k_is); (case zK => k_is))
    (case d49 => refine' DI.dfact ?zA ?zL ?zC ?zK; (case zA => k_is); (case zL => k_is); (case zC => k_is); (case zK => k_is))
    (case d50 => refine' DI.dfact ?zA ?zL ?zC ?zK; (case zA => k_is); (case zL => k_is); (case zC => k_is); (case zK => k_is))
    (case c0 => show DI.CFact _ "MOST_FIGURES" (.int 12); refine' DI.cfactA ?zA ?zB; (case zA => k_is); (case zB => decide +kernel))
    (case c1 => show DI.CFact _ "ZERO" (.tup [(.int 0), (.int 1)]); refine' DI.cfactT ?zA ?zL ?zB; (case zA => k_is); (case zL => k_is); (case zB => decide +kernel))
    (case c2 => show DI.CFact _ "ONE" (.tup [(.int 1), (.int 1)]); refine' DI.cfactT ?zA ?zL ?zB; (case zA => k_is); (case zL => k_is); (case zB => decide +kernel))
    (case n0 => show PySem.W.nsIn _ _ "isinstance" = _; k_is)
    (case n1 => show PySem.W.nsIn _ _ "bool" = _; k_is)
    (case n2 => show PySem.W.nsIn _ _ "int" = _; k_is)
    (case n3 => show PySem.W.nsIn _ _ "len" = _; k_is)
    (case n4 => show PySem.W.nsIn _ _ "tuple" = _; k_is)
    (case n5 => show PySem.W.nsIn _ _ "all" = _; k_is)
    (case n6 => show PySem.W.nsIn _ _ "abs" = _; k_is)
    (case n7 => show PySem.W.nsIn _ _ "range" = _; k_is)
    (case n8 => show PySem.W.nsIn _ _ "zip" = _; k_is)
    (case n9 => show PySem.W.nsIn _ _ "min" = _; k_is)
    (case n10 => show PySem.W.nsIn _ _ "sum" = _; k_is)
    (case n11 => show PySem.W.nsIn _ _ "any" = _; k_is)
    (case n12 => show PySem.W.nsIn _ _ "enumerate" = _; k_is)
    (case n13 => show PySem.W.nsIn _ _ "max" = _; k_is)
    (case n14 => show PySem.W.nsIn _ _ "repr" = _; k_is)
    (case n15 => show PySem.W.nsIn _ _ "sorted" = _; k_is)
    (case n16 => show PySem.W.nsIn _ _ "set" = _; k_is)
    (case n17 => show PySem.W.nsIn _ _ "list" = _; k_is)
    (case k0 => show DI.KFact _ "Nothing"; refine' DI.kfact ?zA; (case zA => k_is))
    (case e0 => intro p hp; cases hp; show DI.EFact _ "Nothing"; refine' DI.efactV ?zA ?zQ ?zK ?zS ?zT; (case zA => k_is); (case zQ => k_exc); (case zK => k_is); (case zS => k_is); (case zT => k_is))
    (case x0 => intro p q hp hq; cases hp; cases hq; show DI.XFact _ "Nothing" "Nothing" true; refine' DI.xfact ?zA ?zB ?z1 ?z2 ?z3 ?z4; (case zA => k_is); (case zB => k_is); (case z1 => k_is); (case z2 => k_is); (case z3 => k_is); (case z4 => k_is))
